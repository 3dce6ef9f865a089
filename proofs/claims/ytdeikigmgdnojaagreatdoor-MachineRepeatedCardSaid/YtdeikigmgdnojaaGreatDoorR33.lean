import Derived.Test.YtdeikigmgdnojaaGreatDoorR31
/- A part of the proof of one law. -/
set_option maxRecDepth 100000
set_option maxHeartbeats 8000000
set_option linter.unusedVariables false
set_option linter.unusedSimpArgs false
namespace Go.Ab
open Go
section
variable {P:Program} {X:Nat→Prop} {ι:bZ} {σ:aA} {e:aW} {w:World} {J:aW→aA→Prop}
theorem B9 {k j:Nat} {ty:TypeId} {cells:List DV} {x y:DV} (hh:aQ P X ι σ w) (hk:σ.look k=some (.box ty cells)) (hj:cells[j]? = some x) (hxy:∀ u,aX ι w (bQ X ι σ) x u→aX ι w (bQ X ι σ) y u) :
  Comes' P X ι σ (σ.put k (some (.box ty (cells.set j y)))) w ι w:=by
 obtain ⟨v,hv,ho⟩:=hh.obj k _ hk
 have hB:∀ id o,(σ.put k (some (.box ty (cells.set j y)))).look id=some o→∃ o0,σ.look id=some o0∧∀ u b,kV o u b→kV o0 u b:=fun id o h=>by
  rw [aM hk] at h
  split at h
  ·rename_i e;subst e;cases h;exact ⟨_,hk,fun _ _ h=>h⟩
  ·exact ⟨o,h,fun _ _ h=>h⟩
 refine Comes'.regroup hh (fun _ _ h=>h) (fun id hid=>hh.fresh id (by rw [bV hk] at hid;exact hid)) (fun id o h=>?_) (fun b hb=>?_) (fun id id' o o' u u' b g1 g2 g3 g4 g5 g6=>?_)
 ·rw [aM hk] at h
  split at h
  ·rename_i e;subst e;cases h;exact .inr ⟨v,hv,ho.boxSet hj hxy⟩
  ·exact .inl h
 ·obtain ⟨id,o,u,g1,g2,g3⟩:=hb
  obtain ⟨o0,a1,a2⟩:=hB id o g1
  exact ⟨id,o0,u,a1,g2,a2 u b g3⟩
 ·obtain ⟨o0,a1,a2⟩:=hB id o g1
  obtain ⟨o1,c1,c2⟩:=hB id' o' g2
  exact hh.inj id id' o0 o1 u u' b a1 c1 g3 g4 (a2 u b g5) (c2 u' b g6)
theorem J9 (k j:Nat) {p:Nat} {ty el:TypeId} {cells:List DV} {es:List (List DV)} {ds:List (List aR)} (hk:σ.look k=some (.box ty cells)) (hj:cells[j]? = some (.arr p)) (hpl:σ.look p=some (.arr el es)) (hd:gM es=some ds)
  (h:J e ((σ.put p none).put k (some (.box ty (cells.set j (.d (.lst ds))))))):SC P e σ J:=by
 have hkp:k≠p:=by rintro rfl;rw [hk] at hpl;cases hpl
 have hk2:(σ.put p none).look k=some (.box ty cells):=by rw [aM hpl,if_neg hkp];exact hk
 exact kL (α:=Unit) (S:=fun _=>(σ.put p none).put k (some (.box ty (cells.set j (.d (.lst ds)))))) (E:=fun _=>e) (fun X ι w hh=>by
  have h1:=Comes'.freed hh (a7 hpl)
  have h5:=B9 h1.heap hk2 hj (fun u hr=>by
   cases hr with
   | arr _ _ hi _=>exact .d (FC hh hi hpl hd))
  exact ⟨(),ι,h1.trans h5,fun _ _=>rfl,iM (fun _ _ h=>h)⟩) (fun _=>Nat.le_trans (cX _ _ _) (cX _ _ _)) (fun _=>h)
end
section
variable {P:Program} {nt i:Nat} {K:aW→aA→Prop} {e:aW} {σ σ':aA} {ops:Array Oper} {seen:List Nat} {lt:List dQ} {rest:List (Nat × Oper)} {o:Oper} {d:DV} {R W:List Nat}
theorem OL (hw:aT ops o e=some true) (hd:o.dst=none) (h:aZ P o.op e σ σ.length=some (none,σ')) (hm:iF o.op=false) (hR:dA o.op e=R) (hW:bF o.op e σ.length=W) (hc:SO ops i lt (bN o) R W=true)
  (k:bO P nt ops K (i::seen) (⟨i,o.dst,o.looksAt ops,R,W⟩::lt) rest e σ'):bR P nt ops K seen lt ((i,o)::rest) e σ:=by
 subst hR hW
 refine ⟨⟨fun hx hp=>?_⟩⟩
 obtain ⟨h1,h2,h3⟩:=jL hp
 exact .none (hx (i,o) eS) h1 hw hd h hm (xF h2 hc) (k.h (fun p hp=>hx p (by simp [hp])) (h3 _ _))
theorem SM {t ty el:TypeId} {pos:String} {after:Array Edge} {gd:Option (Nat × Bool)} {a x:Operand} {id j sz off m:Nat} {es:List (List DV)} {c:List DV} (hw:aT ops ⟨none,.store t a x,ty,pos,after,gd⟩ e=some true) (hx:e.ev x=some d) (him:(P.info? t).map (·.size)=some m) (hc:(eO d && (aH d).length == m)=true) (ha:e.ev a=some (.eptr id j sz off)) (hl:σ.look id=some (.arr el es)) (hk:es[j]? = some c) (hsz:P.cellsOf el=sz)
  (hle:off + m≤c.length) (hs:σ.put id (some (.arr el (es.set j (c.take off++aH d++c.drop (off + m)))))=σ') (hok:SO ops i lt (bN ⟨none,.store t a x,ty,pos,after,gd⟩) [] [id]=true)
  (k:bO P nt ops K (i::seen) (⟨i,none,Oper.looksAt ops ⟨none,.store t a x,ty,pos,after,gd⟩,[],[id]⟩::lt) rest e σ'):bR P nt ops K seen lt ((i,⟨none,.store t a x,ty,pos,after,gd⟩)::rest) e σ:=by
 obtain ⟨inf,hi,hm⟩:=Option.map_eq_some_iff.1 him
 subst hm hs hsz
 exact OL hw rfl (by simp only [aZ,dW,hi,hx,hc,if_true,ha,hl,hk,hle,and_self,Option.map]) rfl rfl (by simp only [bF,ha,eQ]) hok k
end
theorem AK:∀ (y:List aR),jH (y.map DV.d)=some y
 | []=>rfl
 | a::y=>by simp [jH,AK y]
theorem sA:∀ (l:List (List aR)),gM (aO l)=some l
 | []=>rfl
 | x::l=>by
  have h:aO (x::l)=x.map DV.d::aO l:=rfl
  rw [h]
  simp [gM,AK,sA l]
end Go.Ab
namespace Go.Ab
open Go Go.Ab.Tryz Go.Proofs
structure WI (G:Prop):Prop where
 h:G
theorem tN {G:Prop} (k:WI G):G:=k.h
end Go.Ab
