import Derived.Laws.IdiomStrings
import Derived.Test.YtdeikigmgdnojaaGreatDoorT00
import Derived.Laws.Rows
/- A part of the proof of one law. -/
set_option maxRecDepth 100000
set_option maxHeartbeats 8000000
set_option linter.unusedVariables false
set_option linter.unusedSimpArgs false
namespace Go.Ab
section
variable {P:Program} {X:Nat→Prop} {ι:bZ} {σ:aA} {w:World}
theorem CZ {e:aW} {t:TypeId} {x i:Operand} {d:DV} {a:Act} (he:cR ι w (bQ X ι σ) e a) (h:aK P (.index t x i) e σ=some d) :
  ∃ v,(Instr.index t (a.eval x) (a.eval i)).run P w = .ok v w∧aX ι w (bQ X ι σ) d v:=by
 simp only [aK] at h
 split at h
 ·rename_i s k n hx hi
  have hxv:=(he.ev hx).sc_inv.1
  have hiv:=(he.ev hi).sc_inv.1
  rw [hxv,hiv]
  split at h
  ·rename_i hc
   obtain ⟨h0,h1,h2⟩:=hc
   cases h
   have hu:P.underlying t=some .string:=by
    unfold r5 at h2
    split at h2
    ·assumption
    ·cases h2
   have hlt:n.toNat < s.size:=by omega
   obtain ⟨h3,h4⟩:=OG hlt
   refine ⟨.int .u8 (bt s n.toNat),?_,.of_sc (Q2 _ _)⟩
   rw [h4]
   simp [Instr.index,asIntOf,underlying,hu,h0,h3]
  ·cases h
 ·rename_i cs k n hx hi
  have hiv:=(he.ev hi).sc_inv.1
  obtain ⟨vs,hxv,hrel⟩:=(he.ev hx).agg_l
  rw [hxv,hiv]
  split at h
  ·rename_i len el sz hao
   unfold wW at hao
   split at hao
   ·rename_i n' el' hu
    cases hinf:P.info? el' with
    | none=>simp [hinf] at hao
    | some i =>
     simp [hinf] at hao
     obtain ⟨rfl,rfl,rfl⟩:=hao
     split at h
     ·rename_i hc
      obtain ⟨v,hr,hv⟩:=pF hrel h
      refine ⟨v,?_,hv⟩
      simp [Instr.index,asIntOf,underlying,hu,hc,cL hinf,hr]
     ·cases h
   ·cases hao
  ·cases h
 ·cases h
theorem BD {op:BinOp} {t:TypeId} {x y:Operand} {u v:Value} (h:∀ cs,u ≠ .agg cs) (hn:u ≠ .nilIface):(eqGuard op t x y u v).run P w = .ok () w:=by
 unfold eqGuard
 cases op <;> simp <;> (cases u <;> simp_all)
theorem uW {u:Value} (h:pU u=true):(∀ cs,u ≠ .agg cs):=by
 intro cs e;subst e;simp [pU] at h
theorem B7 {op:BinOp} {x y u:Value} (h:p9 op x y=some u):x ≠ .nilIface:=by
 intro e;subst e;simp [p9] at h
theorem E9 {t:TypeId} {x y:Value} {p:Bool} (h:CN P t x y=some p):x ≠ .nilIface:=by
 intro e;subst e;unfold CN at h;split at h <;> simp_all
theorem G1 {t:TypeId} {xs ys:List DV} {vx vy:Array Value} (hxr:cM ι w (bQ X ι σ) xs vx.toList) (hyr:cM ι w (bQ X ι σ) ys vy.toList) (d:Nat) (p:Bool) (hp:A3 P t (.agg xs) (.agg ys)=some p) :
  P.eqGuardType P.depth t=false∧(Op.equalIn (d + 3) t (.agg vx) (.agg vy)).run P w = .ok p w:=by
 unfold A3 at hp
 simp only at hp
 split at hp
 ·rename_i fs hu
  split at hp
  ·cases hp
  ·rename_i hst
   simp only [Bool.or_eq_true,not_or,Bool.not_eq_true] at hst
   have hfs:P.fieldsOf t=fs:=by simp [Program.fieldsOf,hu]
   refine ⟨hst.2,?_⟩
   rw [run_equalIn_struct w (d + 2) t vx vy (by rw [hfs];exact hu) hst.1,hfs]
   exact s8 xs ys vx vy (fun i p q h1 h2=>hxr.get i p q h1 (by simpa using h2)) (fun i p q h1 h2=>hyr.get i p q h1 (by simpa using h2)) (by simpa using hxr.len) (by simpa using hyr.len) (d + 1) _ _ hp
 ·cases hp
theorem OQ {t:TypeId} {a b:DV} {va vb:Value} (ha:aX ι w (bQ X ι σ) a va) (hb:aX ι w (bQ X ι σ) b vb) (d:Nat) (p:Bool) (h:A3 P t a b=some p):(Op.equalIn (d + 3) t va vb).run P w = .ok p w:=by
 have h':=h
 unfold A3 at h
 split at h
 ·rw [ha.sc_inv.1,hb.sc_inv.1];exact A4 h (d + 2)
 ·obtain ⟨vx,hxv,hxr⟩:=ha.agg_l
  obtain ⟨vy,hyv,hyr⟩:=hb.agg_l
  rw [hxv,hyv]
  exact (G1 hxr hyr d p h').2
 ·cases h
theorem w5 {xs ys:List DV} {vx vy:Array Value} (hx:cM ι w (bQ X ι σ) xs vx.toList) (hy:cM ι w (bQ X ι σ) ys vy.toList) (d:Nat):∀ (fs:List Field) (p:Bool),w4 P xs ys fs=some p→(Op.eqFields (d + 3) vx vy fs).run P w = .ok p w
 | [],p,h=>by simp [w4] at h;subst h;simp [Op.eqFields]
 | f::fs,p,h=>by
  simp only [w4] at h
  split at h
  ·cases h
  ·rename_i hn
   split at h
   ·rename_i a b q h1 h2 hq
    obtain ⟨p1,hp,rfl⟩:=Option.map_eq_some_iff.1 h
    obtain ⟨va,r1,e1⟩:=pF hx h1
    obtain ⟨vb,r2,e2⟩:=pF hy h2
    have r3:=OQ e1 e2 d p1 hp
    have ih:=w5 hx hy d fs q hq
    simp only [Op.eqFields,hn,ne_eq,not_false_eq_true,if_true,Sem.run_bind,r1,r2,r3,Result.andThen_ok,Sem.run_ite]
    cases p1
    ·simp
    ·simp [ih]
   ·cases h
theorem OR {t:TypeId} {xs ys:List DV} {vx vy:Array Value} (hxr:cM ι w (bQ X ι σ) xs vx.toList) (hyr:cM ι w (bQ X ι σ) ys vy.toList) (p:Bool) (hp:KU P t xs ys=some p) :
  P.eqGuardType P.depth t=false∧(Op.equalIn 10000 t (.agg vx) (.agg vy)).run P w = .ok p w:=by
 unfold KU at hp
 split at hp
 ·rename_i h1
  cases hp
  exact G1 hxr hyr 9997 _ h1
 ·split at hp
  ·rename_i fs hu
   split at hp
   ·cases hp
   ·rename_i hst
    simp only [Bool.or_eq_true,not_or,Bool.not_eq_true] at hst
    have hfs:P.fieldsOf t=fs:=by simp [Program.fieldsOf,hu]
    refine ⟨hst.2,?_⟩
    rw [run_equalIn_struct w 9999 t vx vy (by rw [hfs];exact hu) hst.1,hfs]
    exact w5 hxr hyr 9996 _ _ hp
  ·cases hp
theorem B8 {e:aW} {op:BinOp} {t yt:TypeId} {x y:Operand} {d:DV} {a:Act} (he:cR ι w (bQ X ι σ) e a) (h:aK P (.binOp op t x y yt) e σ=some d) :
  ∃ v,(do eqGuard op t x y (a.eval x) (a.eval y);binOp op t (a.eval x) (a.eval y):Sem Value).run P w = .ok v w∧aX ι w (bQ X ι σ) d v:=by
 simp only [aK] at h
 split at h
 ·rename_i u v hx hy
  obtain ⟨hxv,hxo⟩:=(he.ev hx).sc_inv
  obtain ⟨hyv,hyo⟩:=(he.ev hy).sc_inv
  rw [hxv,hyv]
  split at h
  ·rename_i r hr
   cases h
   refine ⟨r,?_,.of_sc (LC hr hxo)⟩
   simp [BD (uW hxo) (B7 hr),LD hr]
  ·rename_i hno
   have key:∀ p,A3 P t (.d (.sc u)) (.d (.sc v))=some p→(Op.equal t u v).run P w = .ok p w:=fun p hp=>A4 hp _
   have hnn:∀ p,A3 P t (.d (.sc u)) (.d (.sc v))=some p→u ≠ .nilIface:=fun p hp=>E9 hp
   split at h
   ·rename_i ho
    subst ho
    cases hp:A3 P t (.d (.sc u)) (.d (.sc v)) with
    | none=>simp [hp] at h
    | some p =>
     simp [hp] at h
     subst h
     refine ⟨.bool p,?_,.of_sc rfl⟩
     have h1:=key p hp
     simp only [Sem.run_bind,BD (uW hxo) (hnn p hp),Result.andThen_ok]
     have hp':CN P t u v=some p:=hp
     unfold CN at hp'
     split at hp'
     ·cases hp';simp [binOp,h1]
     ·rename_i k k' hu'
      split at hp'
      ·rename_i hk;subst hk;cases hp';simp [p9,xI] at hno
      ·cases hp'
     ·cases hp';simp [p9,AI] at hno
     ·cases hp'
   ·split at h
    ·rename_i ho
     subst ho
     cases hp:A3 P t (.d (.sc u)) (.d (.sc v)) with
     | none=>simp [hp] at h
     | some p =>
      simp [hp] at h
      subst h
      refine ⟨.bool !p,?_,.of_sc rfl⟩
      have h1:=key p hp
      simp only [Sem.run_bind,BD (uW hxo) (hnn p hp),Result.andThen_ok]
      have hp':CN P t u v=some p:=hp
      unfold CN at hp'
      split at hp'
      ·cases hp';simp [binOp,h1]
      ·split at hp'
       ·rename_i hk;subst hk;cases hp';simp [p9,xI] at hno
       ·cases hp'
      ·cases hp';simp [p9,AI] at hno
      ·cases hp'
    ·cases h
 ·rename_i xs ys hx hy
  obtain ⟨vx,hxv,hxr⟩:=(he.ev hx).agg_l
  obtain ⟨vy,hyv,hyr⟩:=(he.ev hy).agg_l
  rw [hxv,hyv]
  have key:∀ p,KU P t xs ys=some p→P.eqGuardType P.depth t=false∧(Op.equalIn 10000 t (.agg vx) (.agg vy)).run P w = .ok p w:=OR hxr hyr
  split at h
  ·rename_i ho
   subst ho
   cases hp:KU P t xs ys with
   | none=>simp [hp] at h
   | some p =>
    simp [hp] at h
    subst h
    obtain ⟨h1,h2⟩:=key p hp
    refine ⟨.bool p,?_,.of_sc rfl⟩
    simp [run_eqGuard_agg w .eql t x y vx vy h1,run_eql_struct,h2]
  ·split at h
   ·rename_i ho
    subst ho
    cases hp:KU P t xs ys with
    | none=>simp [hp] at h
    | some p =>
     simp [hp] at h
     subst h
     obtain ⟨h1,h2⟩:=key p hp
     refine ⟨.bool !p,?_,.of_sc rfl⟩
     simp [run_eqGuard_agg w .neq t x y vx vy h1,run_neq_struct,h2]
   ·cases h
 ·cases h
end
section
variable {P:Program} {X:Nat→Prop} {ι:bZ} {σ:aA} {w:World}
theorem tE {e:aW} {a:Act} (he:cR ι w (bQ X ι σ) e a) {xs:Array Operand} {ds:List DV} (h:xs.toList.mapM e.ev=some ds):cM ι w (bQ X ι σ) ds (xs.map a.eval).toList:=by
 obtain ⟨h1,h2⟩:=lZ h
 refine ⟨by simp [h1],fun i x y hx hy=>?_⟩
 have hi:i < xs.toList.length:=by rw [← h1];exact (List.getElem?_eq_some_iff.1 hx).1
 obtain ⟨z,hz1,hz2⟩:=h2 i xs.toList[i] (List.getElem?_eq_getElem hi)
 rw [hx] at hz1
 cases hz1
 have hy':y=a.eval xs.toList[i]:=by
  rw [Array.toList_map,List.getElem?_map,List.getElem?_eq_getElem hi] at hy
  cases hy;rfl
 rw [hy']
 exact he.ev hz2
theorem sY {e:aW} {a:Act} (he:cR ι w (bQ X ι σ) e a) {dflt hi:Nat} {o:Option Operand} {r:Nat} (h:eX e dflt hi o=some r) (hd:dflt≤hi) :
  r≤hi∧(o=none→r=dflt)∧∀ x,o=some x→∃ k n,a.eval x = .int k n∧0≤n∧n≤(hi:Int)∧r=n.toNat:=by
 cases o with
 | none=>simp [eX] at h;subst h;exact ⟨hd,fun _=>rfl,fun x hx=>by cases hx⟩
 | some x =>
  simp only [eX] at h
  split at h
  ·rename_i k n hx
   split at h
   ·rename_i hc
    cases h
    exact ⟨by omega,fun hx=>by (cases hx),fun y hy=>by cases hy;exact ⟨k,n,(he.ev hx).sc_inv.1,hc.1,hc.2,rfl⟩⟩
   ·cases h
  ·cases h
theorem nA {k:IntKind} {n:Int} {y:Nat} {c:BoundsCode} (h0:0≤n) (h1:n≤(y:Int)):(Instr.sliceBound (.int k n) y c).run P w = .ok n.toNat w:=by
 simp [Instr.sliceBound,asIntOf,h0,h1]
theorem jF {e:aW} {a:Act} (he:cR ι w (bQ X ι σ) e a) {len cap:Nat} {lo hi:Option Operand} {l h:Nat} (hh:eX e len len hi=some h) (hl:eX e 0 h lo=some l) (hcap:len≤cap) (b:Bool) :
  (Instr.sliceBounds b len cap (lo.map a.eval) (hi.map a.eval) none).run P w = .ok (l,h,cap) w∧l≤h∧h≤len:=by
 obtain ⟨h1,h2⟩:=sY he hh (Nat.le_refl _)
 obtain ⟨h3,h4⟩:=sY he hl (Nat.zero_le _)
 refine ⟨?_,h3,h1⟩
 obtain ⟨h5,h6⟩:=h2
 obtain ⟨h7,h8⟩:=h4
 cases hi with
 | none =>
  obtain rfl:=h5 rfl
  cases lo with
  | none=>obtain rfl:=h7 rfl;simp [Instr.sliceBounds]
  | some y =>
   obtain ⟨k',n',hy,h0',hn',rfl⟩:=h8 y rfl
   simp [Instr.sliceBounds,hy,nA h0' hn']
 | some x =>
  obtain ⟨k,n,hx,h0,hn,rfl⟩:=h6 x rfl
  have hb:=nA (P:=P) (w:=w) (k:=k) (c:=if b then .sliceAcap else .sliceAlen) h0 (show n≤(cap:Int) by omega)
  cases lo with
  | none=>obtain rfl:=h7 rfl;simp [Instr.sliceBounds,hx,hb]
  | some y =>
   obtain ⟨k',n',hy,h0',hn',rfl⟩:=h8 y rfl
   simp [Instr.sliceBounds,hx,hb,hy,nA h0' hn']
theorem D5 {e:aW} {t:TypeId} {x:Operand} {lo hi:Option Operand} {d:DV} {a:Act} (he:cR ι w (bQ X ι σ) e a) (h:aK P (.slice t x lo hi none) e σ=some d) :
  ∃ v,(Instr.sliceAt t (a.eval x) (lo.map a.eval) (hi.map a.eval) none).run P w = .ok v w∧aX ι w (bQ X ι σ) d v:=by
 simp only [aK] at h
 split at h
 ·rename_i s hx
  obtain ⟨hxv,hxo⟩:=(he.ev hx).sc_inv
  rw [hxv]
  split at h
  ·rename_i hb hh
   split at h
   ·rename_i lb hl
    split at h
    ·rename_i hs
     cases h
     have hu:P.underlying t=some .string:=by
      unfold r5 at hs
      split at hs
      ·assumption
      ·cases hs
     obtain ⟨hr,h1,h2⟩:=jF (P:=P) (w:=w) he hh hl (Nat.le_refl _) false
     refine ⟨.string (s.extract lb hb),?_,.of_sc ?_⟩
     ·simp [Instr.sliceAt,Instr.slice,underlying,hu,hr]
     ·simp only [pU,decide_eq_true_eq] at hxo ⊢
      have:(s.extract lb hb).size≤s.size:=by simp;omega
      omega
    ·cases h
   ·cases h
  ·cases h
 ·rename_i es hx
  have hv:=he.ev hx
  split at h
  ·rename_i el sz hel
   obtain ⟨hu,inf,hinf,hsz⟩:=fE hel
   split at h
   ·rename_i hb hh
    split at h
    ·rename_i lb hl
     split at h
     ·rename_i hall
      cases h
      generalize a.eval x=v at hv
      cases hv with
      | d hv=>cases hv with
       | emp A c =>
        obtain ⟨hr,h1,h2⟩:=jF (P:=P) (w:=w) he hh hl (show ([]:List (List aR)).length≤c by simp) true
        simp at h2
        obtain rfl:hb=0:=by omega
        obtain rfl:lb=0:=by omega
        simp only [List.length_nil] at hr
        refine ⟨_,by simp [Instr.sliceAt,Instr.slice,underlying,hu,hr,cL hinf];rfl,?_⟩
        simpa using aX.d (dL.emp _ _)
       | lst b o n c size _ vs hn hc hm hb' hM hs hcell hrel =>
        subst hn
        obtain ⟨hr,h1,h2⟩:=jF (P:=P) (w:=w) he hh hl hc true
        refine ⟨_,by simp [Instr.sliceAt,Instr.slice,underlying,hu,hr,cL hinf,hsz];rfl,?_⟩
        by_cases hz:hb - lb=0
        ·rw [hz]
         simpa using aX.d (dL.emp _ _)
        ·have hcl:c≠lb:=by omega
         simp only [hcl,if_false,lS]
         refine .d (.lst b (o + lb * sz) (hb - lb) (c - lb) size _ (fun i j=>vs (lb + i) j) (by simp;omega) (by omega) (by omega) hb' hM (fun i cs hi=>?_) (fun i j cs x hi hj=>?_) (fun i j cs x hi hj=>?_))
         ·rw [List.getElem?_take] at hi
          split at hi
          ·rw [List.getElem?_drop] at hi;exact hs _ _ hi
          ·cases hi
         ·rw [List.getElem?_take] at hi
          split at hi
          ·rw [List.getElem?_drop] at hi
           have hsize:size=sz:=by
            have e1:=hs _ _ hi
            have e2:=List.all_eq_true.1 hall cs (List.mem_of_getElem? hi)
            simp at e2
            omega
           have:=hcell _ _ _ _ hi hj
           rw [← hsize,show o + lb * size + (i * size + j)=o + ((lb + i) * size + j) by rw [Nat.add_mul];omega]
           exact this
          ·cases hi
         ·rw [List.getElem?_take] at hi
          split at hi
          ·rw [List.getElem?_drop] at hi;exact hrel _ _ _ _ hi hj
          ·cases hi
     ·cases h
    ·cases h
   ·cases h
  ·cases h
 ·cases h
end
section
variable {P:Program} {X:Nat→Prop} {ι:bZ} {σ:aA} {w:World}
theorem FS {e:aW} {c x y:Operand} {d:DV} {a:Act} (he:cR ι w (bQ X ι σ) e a) (h:aK P (.pick c x y) e σ=some d) :
  ∃ v,(do pure (.value (if ← asBool (a.eval c) then a.eval x else a.eval y)):Sem Next).run P w = .ok (.value v) w∧aX ι w (bQ X ι σ) d v:=by
 simp only [aK] at h
 split at h
 ·rename_i t hc
  rw [(he.ev hc).sc_inv.1]
  cases t
  ·simp only [Bool.false_eq_true,if_false] at h
   exact ⟨_,by simp [asBool],he.ev h⟩
  ·simp only [if_true] at h
   exact ⟨_,by simp [asBool],he.ev h⟩
 ·cases h
theorem vY {e:aW} {s:TypeId} {x:Operand} {f:Nat} {d:DV} {a:Act} (he:cR ι w (bQ X ι σ) e a) (h:aK P (.fieldAddr s x f) e σ=some d) :
  ∃ v,(Instr.fieldAt s (a.eval x) f).run P w = .ok v w∧aX ι w (bQ X ι σ) d v:=by
 simp only [aK] at h
 split at h
 ·rename_i k hk
  split at h
  ·rename_i id off hx
   cases h
   have hv:=he.ev hx
   generalize a.eval x=v at hv
   cases hv with
   | ptr _ _ b hb=>exact ⟨_,mZ hk rfl,.ptr id (off + k) b hb⟩
  ·rename_i cs off hx
   cases h
   have hv:=he.ev hx
   generalize a.eval x=v at hv
   cases hv with
   | iptr _ _ b o vs hM hb hcell hrel=>exact ⟨_,mZ hk rfl,by rw [Nat.add_assoc];exact .iptr cs (off + k) b o vs hM hb hcell hrel⟩
  ·rename_i id i sz off hx
   cases h
   have hv:=he.ev hx
   generalize a.eval x=v at hv
   cases hv with
   | eptr _ _ _ _ b o n c hb=>exact ⟨_,mZ hk rfl,by rw [Nat.add_assoc,Nat.add_assoc];exact .eptr id i sz (off + k) b o n c hb⟩
  ·cases h
 ·cases h
theorem xV {e:aW} {o:Oper} {x:Operand} {d:DV} {a:Act} (ho:o.op = .nilCheck x) (he:cR ι w (bQ X ι σ) e a) (h:aK P (.nilCheck x) e σ=some d) :
  ∃ v,(execOp a.eval o).run P w = .ok (.value v) w∧aX ι w (bQ X ι σ) d v:=by
 simp only [aK] at h
 split at h
 ·rename_i id off hx
  cases h
  have hv:=he.ev hx
  refine ⟨a.eval x,?_,hv⟩
  generalize hg:a.eval x=v at hv
  cases hv with
  | ptr _ _ b hb=>simp [execOp,ho,hg]
 ·rename_i cs off hx
  cases h
  have hv:=he.ev hx
  refine ⟨a.eval x,?_,hv⟩
  generalize hg:a.eval x=v at hv
  cases hv with
  | iptr _ _ b o vs hM hb hcell hrel=>simp [execOp,ho,hg]
 ·rename_i id i sz off hx
  cases h
  have hv:=he.ev hx
  refine ⟨a.eval x,?_,hv⟩
  generalize hg:a.eval x=v at hv
  cases hv with
  | eptr _ _ _ _ b o n c hb=>simp [execOp,ho,hg]
 ·rename_i f first cap hx
  cases h
  have hv:=he.ev hx
  refine ⟨a.eval x,?_,hv⟩
  generalize hg:a.eval x=v at hv
  cases hv with
  | fn f _ _ fi ca h1 h2 hf hc=>simp [execOp,ho,hg]
 ·rename_i ad hx
  cases h
  have hv:=(he.ev hx).sc_inv.1
  exact ⟨a.eval x,by simp [execOp,ho,hv],he.ev hx⟩
 ·cases h
theorem F8 {e:aW} {op:UnOp} {t:TypeId} {x:Operand} {d:DV} {a:Act} (he:cR ι w (bQ X ι σ) e a) (h:aK P (.unOp op t x) e σ=some d) :
  ∃ v,(Op.unary op (a.eval x)).run P w = .ok v w∧aX ι w (bQ X ι σ) d v:=by
 simp only [aK] at h
 split at h
 ·rename_i k n hx
  cases h
  rw [(he.ev hx).sc_inv.1]
  exact ⟨_,rfl,.of_sc (qZ k (0 - n))⟩
 ·rename_i b hx
  cases h
  rw [(he.ev hx).sc_inv.1]
  exact ⟨_,rfl,.of_sc rfl⟩
 ·cases h
theorem isB_inv {s:TypeId} (h:isB P s=true):∃ el,P.underlying s=some (.slice el)∧P.underlying el=some (.int .u8):=by
 unfold isB at h
 split at h
 ·rename_i el hs
  split at h
  ·rename_i he;exact ⟨el,hs,he⟩
  ·cases h
 ·cases h
theorem byteA_inv {c:List DV} {b:UInt8} (h:byteA c=some b):c=[.d (.sc (.int .u8 (b.toNat:Int)))]:=by
 unfold byteA at h
 split at h
 ·rename_i n
  split at h
  ·rename_i hn;cases h;rw [hn]
  ·cases h
 ·cases h
theorem byteD_inv {c:List aR} {b:UInt8} (h:byteD c=some b):c=[.sc (.int .u8 (b.toNat:Int))]:=by
 unfold byteD at h
 split at h
 ·rename_i n
  split at h
  ·rename_i hn;cases h;rw [hn]
  ·cases h
 ·cases h
theorem mapM_at {α β:Type} {f:α→Option β}:∀ {es:List α} {l:List β},es.mapM f=some l→l.length=es.length∧∀ (j:Nat) (hj:j < l.length),∃ c,es[j]? = some c∧f c=some l[j]
 | [],l,h=>by
  simp only [List.mapM_nil,Option.pure_def,Option.some.injEq] at h
  subst h
  exact ⟨rfl,fun j hj=>by simp at hj⟩
 | c::es,l,h=>by
  simp only [List.mapM_cons,Option.bind_eq_bind] at h
  obtain ⟨b,h1,h2⟩:=Option.bind_eq_some_iff.1 h
  obtain ⟨t,h3,h4⟩:=Option.bind_eq_some_iff.1 h2
  simp only [Option.pure_def,Option.some.injEq] at h4
  subst h4
  obtain ⟨h5,h6⟩:=mapM_at h3
  refine ⟨by simp [h5],fun j hj=>?_⟩
  cases j with
  | zero=>exact ⟨c,rfl,h1⟩
  | succ j=>exact h6 j (by simpa using hj)
theorem okv_bytes {l:List UInt8} (h:l.length≤gY):pU (.string ⟨l.toArray⟩)=true:=by
 simp only [pU,decide_eq_true_eq]
 show l.toArray.size≤maxLen
 simp only [List.size_toArray]
 unfold gY at h
 unfold maxLen
 omega
theorem bytesNone {w:World} {s t el:TypeId} (hs:P.underlying s=some (.slice el)) (he:P.underlying el=some (.int .u8)) (ht:P.underlying t=some .string) (A:Option Addr) (c:Nat) :
  (convert s t (.slice A 0 c)).run P w = .ok (.string ⟨([]:List UInt8).toArray⟩) w:=by
 cases A with
 | none=>rw [run_convert_bytes_string w s t el none 0 c hs he ht];rfl
 | some a=>exact run_convert_bytes_back w s t el a c [] hs he ht (fun j hj=>by simp at hj)
theorem add_at (b o j:Nat):(⟨b,o,none⟩:Addr).add j=⟨b,o + j,none⟩:=by unfold Addr.add;split <;> simp_all
theorem yW {e:aW} {s t:TypeId} {x:Operand} {d:DV} {a:Act} (hh:aQ P X ι σ w) (he:cR ι w (bQ X ι σ) e a) (h:aK P (.convert s t x) e σ=some d) :
  ∃ v,(convert s t (a.eval x)).run P w = .ok v w∧aX ι w (bQ X ι σ) d v:=by
 simp only [aK] at h
 split at h
 case isFalse=>cases h
 rename_i hs
 obtain ⟨ds,hs⟩:=Option.isSome_iff_exists.1 hs
 split at h
 ·rename_i k k' n hu hx
  cases h
  rw [(he.ev hx).sc_inv.1]
  exact ⟨_,by simp [convert,underlying,hs,hu,Conv.intToInt],.of_sc (qZ k n)⟩
 ·rename_i s' hu hx
  cases h
  obtain ⟨h1,h2⟩:=(he.ev hx).sc_inv
  rw [h1]
  refine ⟨.string s',?_,.of_sc h2⟩
  cases ds <;> simp [convert,underlying,hs,hu]
 ·rename_i id hu hx
  split at h
  ·rename_i elem es hl
   split at h
   case isFalse=>cases h
   rename_i hc
   obtain ⟨el,hS,hE⟩:=isB_inv hc.1
   obtain ⟨l,hm,rfl⟩:=Option.map_eq_some_iff.1 h
   obtain ⟨hlen,hget⟩:=mapM_at hm
   have hv:=he.ev hx
   generalize a.eval x=u at hv
   obtain ⟨v0,hi0,hobj⟩:=hh.obj id _ hl
   cases hv with
   | arr _ _ hi _ =>
    rw [hi] at hi0
    cases hi0
    cases hobj with
    | nil _ A =>
     simp only [List.length_nil] at hlen
     obtain rfl:l=[]:=List.eq_nil_of_length_eq_zero hlen
     exact ⟨_,bytesNone hS hE hu A 0,.of_sc (okv_bytes (by simp))⟩
    | arr _ _ b o c cs hb hcap hn hm2 hsz hcl hrel =>
     rw [← hlen]
     refine ⟨_,run_convert_bytes_back w s t el ⟨b,o,none⟩ c l hS hE hu (fun j hj=>?_),.of_sc (okv_bytes (by omega))⟩
     obtain ⟨e1,he1,hb1⟩:=hget j hj
     have e2:=byteA_inv hb1
     have hcz:=hc.2
     have hje:j < es.length:=by omega
     have hlt:o + (j * P.cellsOf elem + 0) < cs.size:=by rw [hcz];rw [hcz] at hcap;omega
     have hr:=hrel j 0 e1 _ cs[o + (j * P.cellsOf elem + 0)] he1 (by rw [e2];rfl) (by simp [hlt])
     have hval:=hr.sc_inv.1
     rw [add_at]
     unfold World.cell?
     simp only [hb]
     have hidx:o + (j * P.cellsOf elem + 0)=o + j:=by rw [hcz];omega
     have hlt':o + j < cs.size:=by rw [← hidx];exact hlt
     simp only [hidx] at hval
     show cs[o + j]? = _
     rw [Array.getElem?_eq_getElem hlt',hval]
  ·cases h
 ·rename_i es hu hx
  split at h
  case isFalse=>cases h
  rename_i hc
  obtain ⟨el,hS,hE⟩:=isB_inv hc
  obtain ⟨l,hm,rfl⟩:=Option.map_eq_some_iff.1 h
  obtain ⟨hlen,hget⟩:=mapM_at hm
  have hv:=he.ev hx
  generalize a.eval x=u at hv
  cases hv with
  | d hd =>
   cases hd with
   | emp A c =>
    simp only [List.length_nil] at hlen
    obtain rfl:l=[]:=List.eq_nil_of_length_eq_zero hlen
    exact ⟨_,bytesNone hS hE hu A c,.of_sc (okv_bytes (by simp))⟩
   | lst b o n c size es vs hn hcc hm2 hb hM hs2 hcell hrel =>
    rw [← hn,← hlen]
    refine ⟨_,run_convert_bytes_back w s t el ⟨b,o,none⟩ c l hS hE hu (fun j hj=>?_),.of_sc (okv_bytes (by omega))⟩
    obtain ⟨e1,he1,hb1⟩:=hget j hj
    have e2:=byteD_inv hb1
    have hsz:size=1:=by rw [← hs2 j e1 he1,e2];rfl
    have h1:=hcell j 0 e1 _ he1 (by rw [e2];rfl)
    have h2:=hrel j 0 e1 _ he1 (by rw [e2];rfl)
    have h3:vs j 0 = .int .u8 (l[j].toNat:Int):=by
     generalize vs j 0=q at h2
     cases h2;rfl
    rw [h3,hsz] at h1
    rw [add_at]
    simpa using h1
 ·cases h
theorem y1 {e:aW} {x:Operand} {i:Nat} {d:DV} {a:Act} (he:cR ι w (bQ X ι σ) e a) (h:aK P (.extract x i) e σ=some d) :
  ∃ v,(Instr.extract (a.eval x) i).run P w = .ok v w∧aX ι w (bQ X ι σ) d v:=by
 simp only [aK] at h
 split at h
 ·rename_i vs hx
  obtain ⟨us,hv,hl,hr⟩:=(he.ev hx).tup_inv
  rw [hv]
  have hi:i < us.size:=by rw [hl];exact (List.getElem?_eq_some_iff.1 h).1
  exact ⟨us[i],by simp [Instr.extract,hi],hr i d _ h (by simp [hi])⟩
 ·cases h
theorem CU {e:aW} {t:TypeId} {x:Operand} {f:Nat} {d:DV} {a:Act} (he:cR ι w (bQ X ι σ) e a) (h:aK P (.field t x f) e σ=some d) :
  ∃ v,(Instr.field t (a.eval x) f).run P w = .ok v w∧aX ι w (bQ X ι σ) d v:=by
 simp only [aK] at h
 split at h
 ·rename_i fs cs hu hx
  split at h
  ·rename_i g hg
   obtain ⟨vs,hv,hr⟩:=(he.ev hx).agg_l
   rw [hv]
   obtain ⟨v,h1,h2⟩:=pF hr h
   exact ⟨v,by simp [Instr.field,underlying,hu,hg,asAgg,h1],h2⟩
  ·cases h
 ·cases h
theorem xR {e:aW} {fn:Fn} {first cap:Array Operand} {d:DV} {a:Act} (he:cR ι w (bQ X ι σ) e a) (h:aK P (.makeFunc fn first cap) e σ=some d) :
  ∃ v,(Instr.makeFunc fn (first.map a.eval) (cap.map a.eval)).run P w = .ok v w∧aX ι w (bQ X ι σ) d v:=by
 simp only [aK] at h
 split at h
 ·rename_i xs ys h1 h2
  cases h
  have r1:=tE he h1
  have r2:=tE he h2
  exact ⟨_,rfl,.fn fn xs ys _ _ (by simpa using r1.len) (by simpa using r2.len) (fun i x y hx hy=>r1.get i x y hx (by simpa using hy)) (fun i x y hx hy=>r2.get i x y hx (by simpa using hy))⟩
 ·cases h
theorem rR {e:aW} {t:TypeId} {x:Operand} {d:DV} {a:Act} (he:cR ι w (bQ X ι σ) e a) (h:aK P (.makeInterface t x) e σ=some d) :
  ∃ v,(Instr.makeInterface t (a.eval x)).run P w = .ok v w∧aX ι w (bQ X ι σ) d v:=by
 simp only [aK] at h
 split at h
 ·cases h
 ·rename_i dd hne hu
  cases hx:e.ev x with
  | none=>simp [hx] at h
  | some y =>
   simp [hx] at h
   subst h
   refine ⟨.iface t (a.eval x),?_,.ifc t y _ (he.ev hx)⟩
   cases dd <;> simp_all [Instr.makeInterface,underlying]
 ·cases h
theorem JJ {e:aW} {o:Oper} {args:Array Operand} {ts:Array TypeId} {d:DV} {a:Act} (ho:o.op = .call { callee := .builtin .len,args,argTypes:=ts }) (he:cR ι w (bQ X ι σ) e a) (hh:aQ P X ι σ w)
  (h:aK P (.call { callee := .builtin .len,args,argTypes:=ts }) e σ=some d):∃ v,(execOp a.eval o).run P w = .ok (.value v) w∧aX ι w (bQ X ι σ) d v:=by
 simp only [aK] at h
 split at h
 ·rename_i x t hargs ht
  obtain rfl:args=#[x]:=by apply Array.toList_inj.1;rw [hargs]
  have hx0:execOp a.eval o=(do let d ← resolve a.eval { callee := .builtin .len,args:=#[x],argTypes:=ts } o.type;invoke d.target d.args):=by simp [execOp,ho]
  have key:∀ v,(Builtin.len_ ts o.type #[a.eval x]).run P w = .ok v w→(execOp a.eval o).run P w = .ok (.value v) w:=fun v hv=>by
   rw [hx0];simp [resolve,invoke,builtin,hv]
  split at h
  ·rename_i s hx hu
   cases h
   obtain ⟨h1,h2⟩:=(he.ev hx).sc_inv
   refine ⟨.int .i64 s.size,key _ ?_,.of_sc ?_⟩
   ·simp [Builtin.len_,ht,h1,underlying,hu,goInt]
   ·have h3:s.size≤maxLen:=by simpa [pU] using h2
    unfold maxLen at h3
    rw [pC]
    simp only [show IntKind.i64.min=-9223372036854775808 from by decide,show IntKind.i64.max=9223372036854775807 from by decide]
    omega
  ·rename_i es el hx hu
   cases h
   have hv:=he.ev hx
   have h2:∃ A c,a.eval x = .slice A es.length c∧es.length≤gY:=by
    generalize a.eval x=v at hv
    cases hv with
    | d hv=>cases hv with
     | emp A c=>exact ⟨A,c,rfl,by simp⟩
     | lst b o n c size _ vs hn hc hm hb' hM hs hcell hrel=>subst hn;exact ⟨_,c,rfl,hm⟩
   obtain ⟨A,c,h1,h2⟩:=h2
   refine ⟨.int .i64 es.length,key _ ?_,.of_sc ?_⟩
   ·simp [Builtin.len_,ht,h1,underlying,hu,goInt]
   ·rw [pC]
    simp only [show IntKind.i64.min=-9223372036854775808 from by decide,show IntKind.i64.max=9223372036854775807 from by decide,gY] at *
    omega
  ·rename_i el hx hu
   cases h
   have hv:=he.ev hx
   generalize hg:a.eval x=v at hv
   cases hv with
   | nils A =>
    refine ⟨.int .i64 0,key _ ?_,.of_sc (by decide)⟩
    simp [Builtin.len_,ht,hg,underlying,hu,goInt]
  ·rename_i id el hx hu
   split at h
   ·rename_i elem es hl
    cases h
    have hv:=he.ev hx
    generalize hg:a.eval x=v at hv
    cases hv with
    | arr _ v hid hsl =>
     obtain ⟨A,n,c,rfl⟩:=hsl
     obtain ⟨h1,h2,h2',h3,h4⟩:=hh.arr hl hid
     subst h1
     refine ⟨.int .i64 es.length,key _ ?_,.of_sc ?_⟩
     ·simp [Builtin.len_,ht,hg,underlying,hu,goInt]
     ·rw [pC]
      simp only [show IntKind.i64.min=-9223372036854775808 from by decide,show IntKind.i64.max=9223372036854775807 from by decide,gY] at *
      omega
   ·cases h
  ·cases h
 ·cases h
theorem qD {e:aW} {o:Oper} {d:DV} {a:Act} (he:cR ι w (bQ X ι σ) e a) (hh:aQ P X ι σ w) (h:aK P o.op e σ=some d) :
  ∃ v,(execOp a.eval o).run P w = .ok (.value v) w∧aX ι w (bQ X ι σ) d v:=by
 have lift:∀ {s:Sem Value},(∃ v,s.run P w = .ok v w∧aX ι w (bQ X ι σ) d v)→∃ v,(do pure (.value (← s)):Sem Next).run P w = .ok (.value v) w∧aX ι w (bQ X ι σ) d v:=by
  rintro s ⟨v,h1,h2⟩
  exact ⟨v,by simp [h1],h2⟩
 cases hop:o.op with
 | move x=>rw [hop] at h;exact ⟨a.eval x,by simp [execOp,hop],he.ev h⟩
 | assign x=>rw [hop] at h;exact ⟨a.eval x,by simp [execOp,hop],he.ev h⟩
 | pick c x y=>rw [hop] at h;have:=FS he h;simpa only [execOp,hop] using this
 | nilCheck x=>rw [hop] at h;exact xV hop he h
 | load t x=>rw [hop] at h;have:=lift (xN he hh h);simpa only [execOp,hop] using this
 | fieldAddr s x f=>rw [hop] at h;have:=lift (vY (w:=w) he h);simpa only [execOp,hop] using this
 | indexAddr t x i=>rw [hop] at h;have:=lift (v8 he hh h);simpa only [execOp,hop] using this
 | index t x i=>rw [hop] at h;have:=lift (CZ he h);simpa only [execOp,hop] using this
 | binOp op t x y yt=>rw [hop] at h;have:=lift (B8 he h);simpa only [execOp,hop] using this
 | unOp op t x=>rw [hop] at h;have:=lift (F8 he h);simpa only [execOp,hop] using this
 | convert s t x=>rw [hop] at h;have:=lift (yW hh he h);simpa only [execOp,hop] using this
 | extract x i=>rw [hop] at h;have:=lift (y1 (P:=P) he h);simpa only [execOp,hop] using this
 | build t parts=>rw [hop] at h;have:=lift (CA he h);simpa only [execOp,hop] using this
 | field t x f=>rw [hop] at h;have:=lift (CU he h);simpa only [execOp,hop] using this
 | makeFunc fn first cap=>rw [hop] at h;have:=lift (xR (P:=P) he h);simpa only [execOp,hop] using this
 | makeInterface t x=>rw [hop] at h;have:=lift (rR he h);simpa only [execOp,hop] using this
 | slice t x lo hi mx =>
  cases mx with
  | none=>rw [hop] at h;have:=lift (D5 he h);simpa only [execOp,hop,Option.map_none] using this
  | some m=>rw [hop] at h;simp [aK] at h
 | call c =>
  rw [hop] at h
  obtain ⟨callee,args,ts⟩:=c
  cases callee with
  | builtin b =>
   cases b with
   | len=>exact JJ hop he hh h
   | _=>simp [aK] at h
  | _=>simp [aK] at h
 | _=>rw [hop] at h;simp [aK] at h
end
def aA.put:aA→Nat→Option aU→aA
 | [],_,o=>[o]
 | _::σ,0,o=>o::σ
 | x::σ,n + 1,o=>x::aA.put σ n o
theorem aA.put_eq (σ:aA) (id:Nat) (o:Option aU):σ.put id o=if id < σ.length then σ.set id o else σ++[o]:=by
 induction σ generalizing id with
 | nil=>simp [aA.put]
 | cons x σ ih =>
  cases id with
  | zero=>simp [aA.put]
  | succ n =>
   simp only [aA.put,ih,List.length_cons,Nat.add_lt_add_iff_right,List.set_cons_succ]
   split <;> rfl
theorem aA.look_put {σ:aA} {id:Nat} {o:Option aU} (h:id≤σ.length) (j:Nat):(σ.put id o).look j=if j=id then o else σ.look j:=by
 rw [aA.put_eq];unfold aA.look
 split
 ·rename_i hl
  rw [List.getElem?_set]
  by_cases hj:id=j
  ·subst hj;simp [hl]
  ·rw [if_neg hj,if_neg (fun e=>hj e.symm)]
 ·rename_i hl
  have hid:id=σ.length:=by omega
  subst hid
  rw [List.getElem?_append]
  by_cases hj:j < σ.length
  ·rw [if_pos hj,if_neg (by omega)]
  ·rw [if_neg hj]
   by_cases hj2:j=σ.length
   ·subst hj2;simp
   ·rw [if_neg hj2]
    have h1:σ[j]? = none:=List.getElem?_eq_none (by omega)
    have h2:([o]:List (Option aU))[j - σ.length]? = none:=List.getElem?_eq_none (by simp;omega)
    rw [h1,h2]
theorem aA.length_put {σ:aA} {id:Nat} {o:Option aU}:(σ.put id o).length=if id < σ.length then σ.length else σ.length + 1:=by
 rw [aA.put_eq]
 split <;> simp
section
variable {P:Program} {X:Nat→Prop} {ι ι':bZ} {σ σ':aA} {w w':World}
theorem aQ.mut_lt (hh:aQ P X ι σ w) {b:Nat} (h:bQ X ι σ b):b < w.heap.size:=by
 rcases h with h | h
 ·exact hh.xlt b h
 obtain ⟨id,o,v,h1,h2,h3⟩:=h
 obtain ⟨v',h4,h5⟩:=hh.obj id o h1
 rw [h2] at h4
 cases h4
 exact h5.block_lt h3
theorem aQ.change (hh:aQ P X ι σ w) (hf:a8 (g8 ι σ) w w') (hι:∀ id v,ι id=some v→ι' id=some v) (hfresh:∀ id,σ'.length≤id→ι' id=none)
  (hobj:∀ id o,σ'.look id=some o→(σ.look id=some o∧∀ v b,ι id=some v→kV o v b→w'.heap[b]? = w.heap[b]?)∨∃ v,ι' id=some v∧bE P ι' w' (bQ X ι' σ') v o)
  (hM:∀ b,b < w.heap.size→g8 ι' σ' b→g8 ι σ b)
  (hinj:∀ id id' o o' v v' b,σ'.look id=some o→σ'.look id'=some o'→ι' id=some v→ι' id'=some v'→kV o v b→kV o' v' b→id=id'):aQ P X ι' σ' w':=by
 refine ⟨hfresh,fun id o ho=>?_,hinj,fun b hb=>Nat.lt_of_lt_of_le (hh.xlt b hb) hf.size,fun b hb hx=>hh.apart b (hM b (hh.xlt b hx) hb) hx,fun g hg=>by
  obtain ⟨g1,g2,g3⟩:=hh.glob g hg
  exact ⟨Nat.lt_of_lt_of_le g1 hf.size,fun h=>g2 (h.imp (fun h=>h) (hM g g1)),g3.mono (hf.block g g1 (fun h=>g2 (.inr h)))⟩⟩
 rcases hobj id o ho with ⟨h1,h2⟩ | h
 ·obtain ⟨v,hv,hr⟩:=hh.obj id o h1
  exact ⟨v,hι _ _ hv,hr.mono hι (hf.mono (M':=bQ X ι σ) fun _ _ h => .inr h) (bQ.of_own hM) (fun b hb=>h2 v b hv hb)⟩
 ·exact h
def bZ.set (ι:bZ) (id:Nat) (v:Value):bZ:=fun i=>if i=id then some v else ι i
theorem x5 (w:World) (o:Obj) (b:Nat) (h:b < w.heap.size):({ w with heap:=w.heap.push o }:World).heap[b]? = w.heap[b]?:=by
 show (w.heap.push o)[b]? = _
 rw [Array.getElem?_push,if_neg (by omega)]
theorem a8.push (M:Nat→Prop) (w:World) (o:Obj):a8 M w { w with heap:=w.heap.push o }:=⟨rfl,rfl,rfl,by simp,fun b hb _=>x5 w o b hb⟩
theorem aQ.alloc {nid:Nat} {o:aU} {obj:Obj} {v:Value} (hh:aQ P X ι σ w) (hn:ι nid=none) (hl:nid≤σ.length) (hv:∀ b,kV o v b→b=w.heap.size)
  (ho:bE P (ι.set nid v) { w with heap:=w.heap.push obj } (bQ X (ι.set nid v) (σ.put nid (some o))) v o) :
  aQ P X (ι.set nid v) (σ.put nid (some o)) { w with heap:=w.heap.push obj }∧(∀ id u,ι id=some u→(ι.set nid v) id=some u)∧∀ b,b < w.heap.size→g8 (ι.set nid v) (σ.put nid (some o)) b→g8 ι σ b:=by
 have hι:∀ id u,ι id=some u→(ι.set nid v) id=some u:=fun id u h=>by
  unfold bZ.set
  rw [if_neg]
  ·exact h
  ·rintro rfl;rw [hn] at h;cases h
 have hM:∀ b,b < w.heap.size→g8 (ι.set nid v) (σ.put nid (some o)) b→g8 ι σ b:=by
  rintro b hb ⟨id,o',u,h1,h2,h3⟩
  rw [aA.look_put hl] at h1
  unfold bZ.set at h2
  split at h1
  ·rename_i he;rw [if_pos he] at h2;cases h2;cases h1;have:=hv b h3;omega
  ·rename_i he;rw [if_neg he] at h2;exact ⟨id,o',u,h1,h2,h3⟩
 refine ⟨hh.change (a8.push _ w obj) hι (fun id h=>?_) (fun id o' h=>?_) hM (fun id id' o1 o2 v1 v2 b h1 h2 h3 h4 h5 h6=>?_),hι,hM⟩
 ·rw [aA.length_put] at h
  unfold bZ.set
  split at h
  ·rw [if_neg (by omega)];exact hh.fresh id h
  ·rw [if_neg (by omega)];exact hh.fresh id (by omega)
 ·rw [aA.look_put hl] at h
  split at h
  ·rename_i he;subst he;cases h;exact .inr ⟨v,by simp [bZ.set],ho⟩
  ·refine .inl ⟨h,fun u b hu hb=>x5 w obj b ?_⟩
   obtain ⟨u',hu',hr⟩:=hh.obj _ _ h
   rw [hu] at hu';cases hu'
   exact hr.block_lt hb
 ·rw [aA.look_put hl] at h1 h2
  unfold bZ.set at h3 h4
  have old:∀ {i:Nat} {o:aU} {u:Value},σ.look i=some o→ι i=some u→kV o u b→b < w.heap.size:=fun hlk hu hb=>by
   obtain ⟨u',hu',hr⟩:=hh.obj _ _ hlk
   rw [hu] at hu';cases hu'
   exact hr.block_lt hb
  split at h1 <;> split at h2
  ·omega
  ·rename_i e1 e2
   rw [if_pos e1] at h3;rw [if_neg e2] at h4
   cases h3;cases h1
   have:=hv b h5
   have:=old h2 h4 h6
   omega
  ·rename_i e1 e2
   rw [if_neg e1] at h3;rw [if_pos e2] at h4
   cases h4;cases h2
   have:=hv b h6
   have:=old h1 h3 h5
   omega
  ·rename_i e1 e2
   rw [if_neg e1] at h3;rw [if_neg e2] at h4
   exact hh.inj id id' o1 o2 v1 v2 b h1 h2 h3 h4 h5 h6
theorem aQ.pushed (hh:aQ P X ι σ w) (obj:Obj):aQ P X ι σ { w with heap:=w.heap.push obj } :=
 hh.change (a8.push _ w obj) (fun _ _ h=>h) hh.fresh (fun id o h => .inl ⟨h,fun u b hu hb=>x5 w obj b (by
  obtain ⟨u',hu',hr⟩:=hh.obj _ _ h
  rw [hu] at hu';cases hu'
  exact hr.block_lt hb)⟩) (fun _ _ h=>h) hh.inj
theorem aQ.write {id:Nat} {o o0:aU} {v:Value} {b:Nat} (hh:aQ P X ι σ w) (hl:σ.look id=some o0) (hid:ι id=some v) (hb:kV o0 v b) (hk:∀ x,kV o v x→kV o0 v x) (hf:a8 (fun x=>x=b) w w')
  (ho:(∀ x,x < w.heap.size→bQ X ι (σ.put id (some o)) x→bQ X ι σ x)→a8 (bQ X ι σ) w w'→bE P ι w' (bQ X ι (σ.put id (some o))) v o) :
  aQ P X ι (σ.put id (some o)) w'∧a8 (g8 ι σ) w w'∧∀ b,b < w.heap.size→g8 ι (σ.put id (some o)) b→g8 ι σ b:=by
 have hlt:id < σ.length:=by
  unfold aA.look at hl
  cases h:σ[id]? with
  | none=>simp [h] at hl
  | some x=>exact (List.getElem?_eq_some_iff.1 h).1
 have hM:∀ x,x < w.heap.size→g8 ι (σ.put id (some o)) x→g8 ι σ x:=by
  rintro x _ ⟨i,o',u,h1,h2,h3⟩
  rw [aA.look_put (by omega)] at h1
  split at h1
  ·rename_i he;subst he;cases h1;rw [hid] at h2;cases h2;exact ⟨i,o0,_,hl,hid,hk _ h3⟩
  ·exact ⟨i,o',u,h1,h2,h3⟩
 have hf':a8 (g8 ι σ) w w':=hf.mono (fun x _ hx=>by subst hx;exact ⟨id,o0,v,hl,hid,hb⟩)
 refine ⟨hh.change hf' (fun _ _ h=>h) (fun i h=>hh.fresh i (by rw [aA.length_put,if_pos hlt] at h;exact h)) (fun i o' h=>?_) hM (fun i i' o1 o2 v1 v2 x h1 h2 h3 h4 h5 h6=>?_),hf',hM⟩
 ·rw [aA.look_put (by omega)] at h
  split at h
  ·rename_i he;subst he;cases h;exact .inr ⟨v,hid,ho (bQ.of_own hM) (hf'.mono fun _ _ h => .inr h)⟩
  ·rename_i he
   refine .inl ⟨h,fun u x hu hx=>hf.block x ?_ (fun e=>he ?_)⟩
   ·obtain ⟨u',hu',hr⟩:=hh.obj _ _ h
    rw [hu] at hu';cases hu'
    exact hr.block_lt hx
   ·subst e
    exact hh.inj i id o' o0 u v x h hl hu hid hx hb
 ·rw [aA.look_put (by omega)] at h1 h2
  have g1:∃ o,σ.look i=some o∧kV o v1 x:=by
   split at h1
   ·rename_i he;subst he;cases h1;rw [hid] at h3;cases h3;exact ⟨_,hl,hk _ h5⟩
   ·exact ⟨_,h1,h5⟩
  have g2:∃ o,σ.look i'=some o∧kV o v2 x:=by
   split at h2
   ·rename_i he;subst he;cases h2;rw [hid] at h4;cases h4;exact ⟨_,hl,hk _ h6⟩
   ·exact ⟨_,h2,h6⟩
  obtain ⟨_,g1,g3⟩:=g1
  obtain ⟨_,g2,g4⟩:=g2
  exact hh.inj i i' _ _ v1 v2 x g1 g2 h3 h4 g3 g4
theorem aQ.free {id:Nat} (hh:aQ P X ι σ w) (hlt:id < σ.length):aQ P X ι (σ.put id none) w∧∀ b,g8 ι (σ.put id none) b→g8 ι σ b:=by
 have hM:∀ b,g8 ι (σ.put id none) b→g8 ι σ b:=by
  rintro b ⟨i,o,v,h1,h2,h3⟩
  rw [aA.look_put (by omega)] at h1
  split at h1
  ·cases h1
  ·exact ⟨i,o,v,h1,h2,h3⟩
 refine ⟨hh.change (a8.refl _ w) (fun _ _ h=>h) (fun i h=>hh.fresh i (by rw [aA.length_put,if_pos hlt] at h;exact h)) (fun i o h=>?_) (fun b _=>hM b) (fun i i' o1 o2 v1 v2 x h1 h2 h3 h4 h5 h6=>?_),hM⟩
 ·rw [aA.look_put (by omega)] at h
  split at h
  ·cases h
  ·exact .inl ⟨h,fun _ _ _ _=>rfl⟩
 ·rw [aA.look_put (by omega)] at h1 h2
  split at h1
  ·cases h1
  ·split at h2
   ·cases h2
   ·exact hh.inj i i' o1 o2 v1 v2 x h1 h2 h3 h4 h5 h6
end
def eO (d:DV):Bool:=pT d && (aH d).all f7
def fT (P:Program) (op:Op) (e:aW) (σ:aA) (nid:Nat):Option (DV × aA) :=
 match op with
 | .alloc t=>match iT P t with
  | some d=>if eO d then some (.ptr nid 0,σ.put nid (some (.box t (aH d)))) else none
  | none=>none
 | .box t x=>match e.ev x with
  | some d=>if eO d then some (.ptr nid 0,σ.put nid (some (.box t (aH d)))) else none
  | none=>none
 | _=>none
def dW (P:Program) (op:Op) (e:aW) (σ:aA):Option aA :=
 match op with
 | .store t a x =>
  match P.info? t,e.ev x with
  | some i,some d =>
   if eO d && (aH d).length == i.size then
    match e.ev a with
    | some (.ptr id off)=>match σ.look id with
     | some (.box ty cells)=>if off + i.size≤cells.length then some (σ.put id (some (.box ty (cells.take off++aH d++cells.drop (off + i.size))))) else none
     | _=>none
    | some (.eptr id k sz off)=>match σ.look id with
     | some (.arr elem es)=>match es[k]? with
      | some c=>if sz=P.cellsOf elem∧off + i.size≤c.length then some (σ.put id (some (.arr elem (es.set k (c.take off++aH d++c.drop (off + i.size)))))) else none
      | none=>none
     | _=>none
    | _=>none
   else none
  | _,_=>none
 | _=>none
section
variable {P:Program} {X:Nat→Prop} {ι:bZ} {σ:aA} {w w':World} {M M':Nat→Prop}
theorem FF {d:DV} {v:Value} (h:aX ι w M d v) (hc:f7 d=true):v.cells=#[v]∧v.oneCell'=true:=by
 cases h with
 | d h=>cases h <;> first | exact ⟨rfl,rfl⟩ | (rename_i hk;cases v <;> first | exact ⟨rfl,rfl⟩ | simp [pU] at hk)
 | agg=>simp [f7] at hc
 | tup=>simp [f7] at hc
 | arr id v h hv=>obtain ⟨A,n,c,rfl⟩:=hv;exact ⟨rfl,rfl⟩
 | mp id v h hv=>obtain ⟨r,rfl⟩:=hv;exact ⟨rfl,rfl⟩
 | _=>exact ⟨rfl,rfl⟩
theorem cM.mono {ι':bZ} (hι:∀ id v,ι id=some v→ι' id=some v) (hf:a8 M w w') (hM:∀ b,b < w.heap.size→M' b→M b) {ds:List DV} {vs:List Value} (h:cM ι w M ds vs):cM ι' w' M' ds vs :=
 ⟨h.len,fun i x y h1 h2=>(h.get i x y h1 h2).mono hι hf hM⟩
theorem cM.cells {ds:List DV} {vs:List Value} (h:cM ι w M ds vs) (hc:ds.all f7=true):∀ v ∈ vs,v.cells=#[v]∧v.oneCell'=true:=by
 intro v hv
 obtain ⟨i,hi⟩:=List.mem_iff_getElem?.1 hv
 have hl:i < ds.length:=by rw [← h.len];exact (List.getElem?_eq_some_iff.1 hi).1
 have hd:=List.getElem?_eq_getElem hl
 exact FF (h.get i _ _ hd hi) (List.all_eq_true.1 hc _ (List.mem_of_getElem? hd))
theorem bE.box_of {ty:TypeId} {cells:List DV} {b:Nat} {cs:Array Value} (hb:w.heap[b]? = some (.cells cs ty (0,0))) (h:cM ι w M cells cs.toList) (h1:∀ v ∈ cs.toList,v.cells=#[v]) :
  bE P ι w M (.pointer (some ⟨b,0,none⟩)) (.box ty cells) :=
 .box ty cells b cs hb (by simpa using h.len) (fun j x y hx hy=>h.get j x y hx (by simpa using hy)) (fun j y hy=>h1 y (by simpa using Array.mem_of_getElem? hy))
theorem rJ (w:World) (o:Obj):({ w with heap:=w.heap.push o }:World).heap[w.heap.size]? = some o:=by simp
structure Comes' (P:Program) (X:Nat→Prop) (ι:bZ) (σ σ':aA) (w:World) (ι':bZ) (w':World):Prop where
 inj:∀ id v,ι id=some v→ι' id=some v
 frame:a8 (g8 ι σ) w w'
 heap:aQ P X ι' σ' w'
 muts:∀ b,b < w.heap.size→g8 ι' σ' b→g8 ι σ b
theorem Comes'.frameM {ι':bZ} {σ':aA} (h:Comes' P X ι σ σ' w ι' w'):a8 (bQ X ι σ) w w':=h.frame.mono fun _ _ h => .inr h
theorem Comes'.mutsM {ι':bZ} {σ':aA} (h:Comes' P X ι σ σ' w ι' w'):∀ b,b < w.heap.size→bQ X ι' σ' b→bQ X ι σ b:=bQ.of_own h.muts
theorem Comes'.refl (hh:aQ P X ι σ w):Comes' P X ι σ σ w ι w:=⟨fun _ _ h=>h,a8.refl _ w,hh,fun _ _ h=>h⟩
theorem tS {t:TypeId} {d:DV} {v:Value} {nid:Nat} (hh:aQ P X ι σ w) (hn:ι nid=none) (hl:nid≤σ.length) (hv:aX ι w (bQ X ι σ) d v) (hc:eO d=true) :
  ∃ ι' w',(newVar t v).run P w = .ok ⟨w.heap.size,0,none⟩ w'∧Comes' P X ι σ (σ.put nid (some (.box t (aH d)))) w ι' w'∧ι' nid=some (.pointer (some ⟨w.heap.size,0,none⟩))∧∀ i,i≠nid→ι' i=ι i:=by
 simp only [eO,Bool.and_eq_true] at hc
 have hrel:=n9 hv hc.1
 have hone:=hrel.cells hc.2
 let v':Value := .pointer (some ⟨w.heap.size,0,none⟩)
 have hι:∀ id u,ι id=some u→(bZ.set ι nid v') id=some u:=fun id u h=>by
  unfold bZ.set;rw [if_neg]
  ·exact h
  ·rintro rfl;rw [hn] at h;cases h
 have hM:∀ b,b < w.heap.size→g8 (bZ.set ι nid v') (σ.put nid (some (.box t (aH d)))) b→g8 ι σ b:=by
  rintro b hb ⟨id,o',u,h1,h2,h3⟩
  rw [aA.look_put hl] at h1
  unfold bZ.set at h2
  split at h1
  ·rename_i he;rw [if_pos he] at h2;cases h2;cases h1;simp [v',kV,cY] at h3;omega
  ·rename_i he;rw [if_neg he] at h2;exact ⟨id,o',u,h1,h2,h3⟩
 obtain ⟨h1,h2,h3⟩:=hh.alloc (nid:=nid) (o := .box t (aH d)) (obj := .cells v.cells t) (v:=v') hn hl (fun b hb=>by simp [v',kV,cY] at hb;exact hb.symm)
  (bE.box_of (rJ w _) (hrel.mono hι (a8.push _ w _) (bQ.of_own hM)) (fun y hy=>(hone y hy).1))
 exact ⟨_,_,rfl,⟨h2,a8.push _ w _,h1,h3⟩,by simp [bZ.set,v'],fun i hi=>by simp [bZ.set,hi]⟩
theorem rW {e:aW} {o:Oper} {d:DV} {a:Act} {nid:Nat} {σ':aA} (he:cR ι w (bQ X ι σ) e a) (hh:aQ P X ι σ w) (hn:ι nid=none) (hl:nid≤σ.length) (h:fT P o.op e σ nid=some (d,σ')) :
  ∃ v ι' w',(execOp a.eval o).run P w = .ok (.value v) w'∧Comes' P X ι σ σ' w ι' w'∧aX ι' w' (bQ X ι' σ') d v∧∀ i,i≠nid→ι' i=ι i:=by
 cases hop:o.op with
 | alloc t =>
  rw [hop] at h
  simp only [fT] at h
  split at h
  ·rename_i z hz
   split at h
   ·rename_i hc
    cases h
    obtain ⟨v,h1,h2⟩:=lM (w:=w) (ι:=ι) (σ:=σ) hz
    obtain ⟨ι',w',h3,h4,h5,h6⟩:=tS (t:=t) hh hn hl h2 hc
    exact ⟨_,ι',w',by simp [execOp,hop,Instr.alloc,h1,h3],h4,.ptr nid 0 _ h5,h6⟩
   ·cases h
  ·cases h
 | box t x =>
  rw [hop] at h
  simp only [fT] at h
  split at h
  ·rename_i z hz
   split at h
   ·rename_i hc
    cases h
    obtain ⟨ι',w',h3,h4,h5,h6⟩:=tS (t:=t) hh hn hl (he.ev hz) hc
    exact ⟨_,ι',w',by simp [execOp,hop,Instr.box,h3],h4,.ptr nid 0 _ h5,h6⟩
   ·cases h
  ·cases h
 | _=>rw [hop] at h;simp [fT] at h
theorem a8.setRow (w:World) (g:Nat) (cs:Array Value):a8 (fun x=>x=g) w (w.setRow g cs) :=
 ⟨rfl,rfl,rfl,by simp,fun b _ hb=>setRow_other w g b cs hb⟩
theorem vX {e:aW} {o:Oper} {a:Act} {σ':aA} (he:cR ι w (bQ X ι σ) e a) (hh:aQ P X ι σ w) (h:dW P o.op e σ=some σ') :
  ∃ w',(execOp a.eval o).run P w = .ok .skip w'∧Comes' P X ι σ σ' w ι w':=by
 cases hop:o.op with
 | store t x y =>
  rw [hop] at h
  simp only [dW] at h
  split at h
  ·rename_i i d hi hd
   split at h
   ·rename_i hc
    simp only [Bool.and_eq_true,beq_iff_eq] at hc
    obtain ⟨hc1,hlen⟩:=hc
    simp only [eO,Bool.and_eq_true] at hc1
    have hv:=he.ev hd
    have hrel:=n9 hv hc1.1
    have hone:=hrel.cells hc1.2
    have hvs:(a.eval y).cells.size=i.size:=by rw [← hlen];simpa using hrel.len
    have hone':∀ v ∈ (a.eval y).cells.toList,v.oneCell'=true:=fun v hv=>(hone v hv).2
    split at h
    ·rename_i id off hx
     have hxv:=he.ev hx
     generalize hg:a.eval x=xv at hxv
     cases hxv with
     | ptr _ _ b hb =>
      split at h
      ·rename_i ty cells hl
       split at h
       ·rename_i hoff
        cases h
        obtain ⟨cs,h1,h2,h3,h4⟩:=hh.box hl hb
        have hrun:=run_storeCells_at (P:=P) b off ty (a.eval y).cells.toList 0 cs w h1 (by simp;omega) hone'
        simp only [Nat.add_zero] at hrun
        let cs':Array Value:=(cs.toList.take off++(a.eval y).cells.toList++cs.toList.drop (off + (a.eval y).cells.toList.length)).toArray
        have tN:cM ι w (bQ X ι σ) cells cs.toList:=⟨by simpa using h2,fun j x y hx hy=>h3 j x y hx (by simpa using hy)⟩
        have hnew:cM ι w (bQ X ι σ) (cells.take off++aH d++cells.drop (off + i.size)) cs'.toList:=by
         have:(a.eval y).cells.toList.length=i.size:=by simpa using hvs
         simp only [cs',this]
         exact ((tN.take off).append hrel).append (tN.drop (off + i.size))
        have hone2:∀ v ∈ cs'.toList,v.cells=#[v]:=by
         intro v hv
         simp only [cs',List.mem_append] at hv
         have hcs:∀ v ∈ cs.toList,v.cells=#[v]:=fun v hv=>by
          obtain ⟨j,hj⟩:=List.mem_iff_getElem?.1 hv
          exact h4 j v (by simpa using hj)
         rcases hv with (hv | hv) | hv
         ·exact hcs v (List.mem_of_mem_take hv)
         ·exact (hone v hv).1
         ·exact hcs v (List.mem_of_mem_drop hv)
        obtain ⟨g1,g2,g3⟩:=hh.write (o := .box ty (cells.take off++aH d++cells.drop (off + i.size))) (w':=w.setRow b cs') hl hb (b:=b) rfl (fun _ h=>h) (a8.setRow w b cs')
         (fun hM hf=>bE.box_of (setRow_heap w b cs cs' ty (0,0) h1) (hnew.mono (fun _ _ h=>h) hf hM) hone2)
        refine ⟨w.setRow b cs',?_,⟨fun _ _ h=>h,g2,g1,g3⟩⟩
        simp only [execOp,hop,Instr.storeAt,hg,Instr.sureAddr,storeVar,Sem.run_bind,Sem.run_pure,Result.andThen_ok,cL hi,hvs,ne_eq,not_true_eq_false,if_false,hrun]
        simp [cs']
       ·cases h
      ·cases h
    ·rename_i id k sz off hx
     have hxv:=he.ev hx
     generalize hg:a.eval x=xv at hxv
     cases hxv with
     | eptr _ _ _ _ b o' n c hb =>
      split at h
      ·rename_i elem es hl
       split at h
       ·rename_i cc hcc
        split at h
        ·rename_i hoff
         obtain ⟨hsz,hoff⟩:=hoff
         cases h
         obtain ⟨h1,h2,h2',⟨h3,h3c⟩,h4⟩:=hh.arr hl hb
         rcases h4 with ⟨rfl,rfl⟩ | ⟨b',o'',cs,he',h5,h6,h7⟩
         ·simp at hcc
         ·cases he'
          subst hsz
          subst h1
          have hkl:k < es.length:=(List.getElem?_eq_some_iff.1 hcc).1
          have hcl:cc.length=P.cellsOf elem:=h3 _ (List.mem_of_getElem? hcc)
          have hrow:(k + 1) * P.cellsOf elem≤c * P.cellsOf elem:=Nat.mul_le_mul_right _ (by omega)
          rw [Nat.add_mul,Nat.one_mul] at hrow
          have hrun:=run_storeCells_at (P:=P) b (o' + (k * P.cellsOf elem + off)) elem (a.eval y).cells.toList 0 cs w h5 (by simp;omega) hone'
          simp only [Nat.add_zero] at hrun
          have hvl:(a.eval y).cells.toList.length=i.size:=by simpa using hvs
          let p:=o' + (k * P.cellsOf elem + off)
          let cs':Array Value:=(cs.toList.take p++(a.eval y).cells.toList++cs.toList.drop (p + (a.eval y).cells.toList.length)).toArray
          have hget:∀ q v,cs'[q]? = some v→(p≤q∧q < p + i.size∧(a.eval y).cells.toList[q - p]? = some v)∨((q < p∨p + i.size≤q)∧cs[q]? = some v):=by
           intro q v hq
           have hp:p≤cs.toList.length:=by simp [p];omega
           simp only [cs',List.getElem?_toArray] at hq
           rw [hvl,List.append_assoc,List.getElem?_append] at hq
           have hpl:(cs.toList.take p).length=p:=by rw [List.length_take];omega
           rw [hpl] at hq
           split at hq
           ·rename_i hlt
            rw [List.getElem?_take,if_pos hlt] at hq
            exact .inr ⟨.inl hlt,by simpa using hq⟩
           ·rename_i hge
            rw [List.getElem?_append,hvl] at hq
            split at hq
            ·rename_i hlt;exact .inl ⟨by omega,by omega,hq⟩
            ·rename_i hge2
             rw [List.getElem?_drop] at hq
             exact .inr ⟨.inr (by omega),by rw [show p + i.size + (q - p - i.size)=q by omega] at hq;simpa using hq⟩
          have hsize:cs'.size=cs.size:=by
           simp [cs',p]
           have:=hvs
           omega
          obtain ⟨g1,g2,g3⟩:=hh.write (o := .arr elem (es.set k (cc.take off++aH d++cc.drop (off + i.size)))) (w':=w.setRow b cs') hl hb (b:=b) (by
            cases c with
            | zero=>omega
            | succ c=>rfl) (fun _ h=>h) (a8.setRow w b cs')
           (fun hM hf=>by
            have hlen':(es.set k (cc.take off++aH d++cc.drop (off + i.size))).length=es.length:=by simp
            rw [← hlen']
            refine .arr elem _ b o' c cs' (setRow_heap w b cs cs' elem (0,0) h5) (by rw [hsize];exact h6) (by rw [hlen'];exact h2') (by rw [hlen'];exact h2) (fun e' he'=>?_) (fun e' he' z hz=>?_) (fun i' j e' x' y' hi' hj hy'=>?_)
            ·rcases List.mem_or_eq_of_mem_set he' with h8 | h8
             ·exact h3 _ h8
             ·subst h8;simp [hlen];omega
            ·rcases List.mem_or_eq_of_mem_set he' with h8 | h8
             ·exact h3c _ h8 _ hz
             ·subst h8
              have hcm:=List.mem_of_getElem? hcc
              rcases List.mem_append.1 hz with hz | hz
              ·rcases List.mem_append.1 hz with hz | hz
               ·exact h3c _ hcm _ (List.mem_of_mem_take hz)
               ·exact List.all_eq_true.1 hc1.2 _ hz
              ·exact h3c _ hcm _ (List.mem_of_mem_drop hz)
            ·refine aX.mono (fun _ _ h=>h) hf hM ?_
             rw [List.getElem?_set] at hi'
             by_cases hki:k=i'
             ·subst hki
              simp only [if_true,hkl] at hi'
              cases hi'
              rcases hget _ _ hy' with ⟨q1,q2,q3⟩ | ⟨q1,q2⟩
              ·have hj1:off≤j∧j < off + i.size:=by simp only [p] at q1 q2;omega
               rw [show o' + (k * P.cellsOf elem + j) - p=j - off by simp only [p];omega] at q3
               have hx':(aH d)[j - off]? = some x':=by
                rw [List.append_assoc,List.getElem?_append] at hj
                have:(cc.take off).length=off:=by rw [List.length_take];omega
                rw [this,if_neg (by omega),List.getElem?_append,if_pos (by omega)] at hj
                exact hj
               exact hrel.get _ _ _ hx' q3
              ·have hj1:j < off∨off + i.size≤j:=by simp only [p] at q1;omega
               have hx':cc[j]? = some x':=by
                rw [List.append_assoc,List.getElem?_append] at hj
                have:(cc.take off).length=off:=by rw [List.length_take];omega
                rw [this] at hj
                split at hj
                ·rename_i hlt;rw [List.getElem?_take,if_pos hlt] at hj;exact hj
                ·rw [List.getElem?_append,hlen,if_neg (by omega),List.getElem?_drop,show off + i.size + (j - off - i.size)=j by omega] at hj
                 exact hj
               exact h7 k j cc x' y' hcc hx' q2
             ·rw [if_neg hki] at hi'
              have hjl:j < P.cellsOf elem:=by rw [← h3 _ (List.mem_of_getElem? hi')];exact (List.getElem?_eq_some_iff.1 hj).1
              have hne:o' + (i' * P.cellsOf elem + j) < p∨p + i.size≤o' + (i' * P.cellsOf elem + j):=by
               rcases Nat.lt_or_ge i' k with hlt | hge
               ·left
                have:=Nat.mul_le_mul_right (P.cellsOf elem) (show i' + 1≤k by omega)
                rw [Nat.add_mul,Nat.one_mul] at this
                simp only [p];omega
               ·right
                have:=Nat.mul_le_mul_right (P.cellsOf elem) (show k + 1≤i' by omega)
                rw [Nat.add_mul,Nat.one_mul] at this
                simp only [p];omega
              rcases hget _ _ hy' with ⟨q1,q2,q3⟩ | ⟨q1,q2⟩
              ·omega
              ·exact h7 i' j e' x' y' hi' hj q2)
          refine ⟨w.setRow b cs',?_,⟨fun _ _ h=>h,g2,g1,g3⟩⟩
          simp only [execOp,hop,Instr.storeAt,hg,Instr.sureAddr,storeVar,Sem.run_bind,Sem.run_pure,Result.andThen_ok,cL hi,hvs,ne_eq,not_true_eq_false,if_false,hrun]
          simp [cs',p]
        ·cases h
       ·cases h
      ·cases h
    ·cases h
   ·cases h
  ·cases h
 | _=>rw [hop] at h;simp [dW] at h
end
section
variable {P:Program} {X:Nat→Prop} {ι:bZ} {σ:aA} {w w':World} {M M':Nat→Prop}
theorem eE {sz:Nat}:∀ (es:List (List DV)),(∀ e ∈ es,e.length=sz)→es.flatten.length=es.length * sz
 | [],_=>by simp
 | e::es,h=>by
  have ih:=eE es (fun x hx=>h x (by simp [hx]))
  have h0:=h e (by simp)
  simp only [List.flatten_cons,List.length_append,List.length_cons,ih,h0]
  rw [Nat.add_mul,Nat.one_mul,Nat.add_comm]
theorem lW {sz:Nat}:∀ (es:List (List DV)) (i j:Nat),(∀ e ∈ es,e.length=sz)→j < sz→es.flatten[i * sz + j]? = (es[i]?).bind (·[j]?)
 | [],i,j,_,_=>by simp
 | e::es,i,j,h,hj=>by
  have h0:=h e (by simp)
  cases i with
  | zero=>simp [List.getElem?_append,h0,hj]
  | succ i =>
   have ih:=lW es i j (fun x hx=>h x (by simp [hx])) hj
   rw [List.flatten_cons,List.getElem?_append,h0,if_neg (by rw [Nat.add_mul];omega)]
   rw [show (i + 1) * sz + j - sz=i * sz + j by rw [Nat.add_mul];omega]
   simpa using ih
theorem nT {sz:Nat} (es:List (List DV)) (h:∀ e ∈ es,e.length=sz) {q:Nat} {x:DV} (hq:es.flatten[q]? = some x):∃ i j e,q=i * sz + j∧j < sz∧es[i]? = some e∧e[j]? = some x:=by
 have hl:=(List.getElem?_eq_some_iff.1 hq).1
 rw [eE es h] at hl
 have hsz:0 < sz:=by
  rcases Nat.eq_zero_or_pos sz with h0 | h0
  ·subst h0;simp at hl
  ·exact h0
 have hj:q % sz < sz:=Nat.mod_lt _ hsz
 have e0:q=(q / sz) * sz + q % sz:=by rw [Nat.mul_comm];exact (Nat.div_add_mod q sz).symm
 rw [e0,lW es _ _ h hj] at hq
 cases he:es[q / sz]? with
 | none=>simp [he] at hq
 | some e=>exact ⟨q / sz,q % sz,e,e0,hj,he,by simpa [he] using hq⟩
theorem aQ.arr_flat {id:Nat} {elem:TypeId} {es:List (List DV)} (hh:aQ P X ι σ w) (hl:σ.look id=some (.arr elem es)) {A:Option Addr} {n c:Nat} (hb:ι id=some (.slice A n c)) :
  n=es.length∧n≤gY∧n≤c∧((∀ e ∈ es,e.length=P.cellsOf elem)∧∀ e ∈ es,∀ x ∈ e,f7 x=true)∧(es=[]∧c=0∨∃ b o cs,A=some ⟨b,o,none⟩∧w.heap[b]? = some (.cells cs elem (0,0))∧o + c * P.cellsOf elem≤cs.size ∧
   cM ι w (bQ X ι σ) es.flatten ((cs.toList.drop o).take (es.length * P.cellsOf elem))):=by
 obtain ⟨h1,h2,h3,⟨h4,h4c⟩,h5⟩:=hh.arr hl hb
 refine ⟨h1,h2,h3,⟨h4,h4c⟩,h5.imp (fun h=>h) ?_⟩
 rintro ⟨b,o,cs,rfl,h6,h7,h8⟩
 have hle:es.length * P.cellsOf elem≤c * P.cellsOf elem:=Nat.mul_le_mul_right _ (by omega)
 refine ⟨b,o,cs,rfl,h6,h7,⟨?_,fun q x y hx hy=>?_⟩⟩
 ·rw [eE es h4];simp;omega
 ·obtain ⟨i,j,e,rfl,hj,he,hx⟩:=nT es h4 hx
  rw [List.getElem?_take] at hy
  split at hy
  ·rw [List.getElem?_drop] at hy
   exact h8 i j e x y he hx (by simpa using hy)
  ·cases hy
theorem bE.arr_of {elem:TypeId} {es:List (List DV)} {b o c:Nat} {cs:Array Value} (hb:w.heap[b]? = some (.cells cs elem (0,0))) (hc:o + c * P.cellsOf elem≤cs.size) (hn:es.length≤c) (hm:es.length≤gY)
  (hs:∀ e ∈ es,e.length=P.cellsOf elem) (hcl:∀ e ∈ es,∀ x ∈ e,f7 x=true) (h:cM ι w M es.flatten ((cs.toList.drop o).take (es.length * P.cellsOf elem))):bE P ι w M (.slice (some ⟨b,o,none⟩) es.length c) (.arr elem es):=by
 refine .arr elem es b o c cs hb hc hn hm hs hcl (fun i j e x y he hx hy=>?_)
 have hj:j < P.cellsOf elem:=by rw [← hs e (List.mem_of_getElem? he)];exact (List.getElem?_eq_some_iff.1 hx).1
 have hi:i < es.length:=(List.getElem?_eq_some_iff.1 he).1
 refine h.get (i * P.cellsOf elem + j) x y ?_ ?_
 ·rw [lW es i j hs hj,he];exact hx
 ·have:i * P.cellsOf elem + j < es.length * P.cellsOf elem:=by
   have:=Nat.mul_le_mul_right (P.cellsOf elem) (show i + 1≤es.length by omega)
   rw [Nat.add_mul,Nat.one_mul] at this
   omega
  rw [List.getElem?_take,if_pos this,List.getElem?_drop]
  simpa using hy
theorem dL.flat {es:List (List aR)} {A:Option Addr} {n c sz:Nat} (h:dL w M (.lst es) (.slice A n c)) (hs:∀ e ∈ es,e.length=sz):n=es.length∧n≤gY∧n≤c ∧
  (es=[]∨∃ b o,A=some ⟨b,o,none⟩∧∃ vs:List Value,vs.length=n * sz∧(∀ q v,vs[q]? = some v→w.cell? ⟨b,o + q,none⟩=some v)∧cM ι w M (es.map fun e=>e.map DV.d).flatten vs):=by
 cases h with
 | emp=>exact ⟨rfl,by simp,by simp,.inl rfl⟩
 | lst b o _ _ size _ vs hn hc hm hb hM hsz hcell hrel =>
  refine ⟨hn.symm,hm,hc,?_⟩
  rcases es with _ | ⟨e0,es⟩
  ·exact .inl rfl
  ·right
   have hsize:size=sz:=by
    have h1:=hsz 0 e0 (by simp)
    have h2:=hs e0 (by simp)
    omega
   subst hsize
   have hall:∀ e ∈ ((e0::es).map fun e=>e.map DV.d),e.length=size:=by
    intro e he
    obtain ⟨e',he',rfl⟩:=List.mem_map.1 he
    simpa using hs e' he'
   refine ⟨b,o,rfl,(List.range (n * size)).map (fun q=>vs (q / size) (q % size)),by simp,fun q v hq=>?_,⟨?_,fun q x y hx hy=>?_⟩⟩
   ·have hql:q < n * size:=by have:=(List.getElem?_eq_some_iff.1 hq).1;simpa using this
    have hpos:0 < size:=by
     rcases Nat.eq_zero_or_pos size with h0 | h0
     ·subst h0;simp at hql
     ·exact h0
    have hv:v=vs (q / size) (q % size):=by simp [hql] at hq;exact hq.symm
    have hi:q / size < (e0::es).length:=by rw [hn,Nat.div_lt_iff_lt_mul hpos];exact hql
    have hgi:=List.getElem?_eq_getElem hi
    have hj:q % size < ((e0::es)[q / size]).length:=by rw [hsz _ _ hgi];exact Nat.mod_lt _ hpos
    have:=hcell _ _ _ _ hgi (List.getElem?_eq_getElem hj)
    rw [hv,← this]
    congr 2
    rw [Nat.mul_comm];rw [Nat.div_add_mod]
   ·rw [eE _ hall];simp [← hn]
   ·obtain ⟨i,j,e,rfl,hj,he,hx⟩:=nT _ hall hx
    rw [List.getElem?_map] at he
    cases hei:(e0::es)[i]? with
    | none=>simp [hei] at he
    | some e' =>
     simp [hei] at he
     subst he
     rw [List.getElem?_map] at hx
     cases hxj:e'[j]? with
     | none=>simp [hxj] at hx
     | some x' =>
      simp [hxj] at hx
      subst hx
      have hpos:0 < size:=by omega
      have hil:i < n:=by rw [← hn];exact (List.getElem?_eq_some_iff.1 hei).1
      have hql:i * size + j < n * size:=by
       have:=Nat.mul_le_mul_right size (show i + 1≤n by omega)
       rw [Nat.add_mul,Nat.one_mul] at this
       omega
      have hd1:(i * size + j) / size=i:=by
       rw [Nat.mul_comm,Nat.mul_add_div hpos,Nat.div_eq_of_lt hj,Nat.add_zero]
      have hd2:(i * size + j) % size=j:=by
       rw [Nat.mul_comm,Nat.mul_add_mod,Nat.mod_eq_of_lt hj]
      rw [List.getElem?_map,List.getElem?_range hql] at hy
      simp only [Option.map_some,Option.some.injEq,hd1,hd2] at hy
      subst hy
      exact .d (hrel _ _ _ _ hei hxj)
end
end Go.Ab
