import Derived.Test.YtdeikigmgdnojaaGreatDoorA35
/- A part of the proof of one law. -/
set_option maxRecDepth 100000
set_option maxHeartbeats 8000000
set_option linter.unusedVariables false
set_option linter.unusedSimpArgs false
namespace Go.Ab
open Go
section
variable {P:Program} {X:Nat→Prop} {ι:bZ} {σ:aA} {e:aW} {w:World} {J:aW→aA→Prop}
theorem B9 {k j:Nat} {ty:TypeId} {cells:List DV} {x y:DV} (hh:aQ P X ι σ w) (hk:σ.look k=some (.box ty cells)) (hj:cells[j]? = some x) (hxy:∀ u,aX ι w (bQ X ι σ) x u→aX ι w (bQ X ι σ) y u) :
  Comes' P X ι σ (σ.put k (some (.box ty (cells.set j y)))) w ι w:=by
 obtain ⟨v,hv,ho⟩:=hh.obj k _ hk
 have hB:∀ id o,(σ.put k (some (.box ty (cells.set j y)))).look id=some o→∃ o0,σ.look id=some o0∧∀ u b,kV o u b→kV o0 u b:=fun id o h=>by
  rw [aM hk] at h
  split at h
  ·rename_i e;subst e;cases h;exact ⟨_,hk,fun _ _ h=>h⟩
  ·exact ⟨o,h,fun _ _ h=>h⟩
 refine Comes'.regroup hh (fun _ _ h=>h) (fun id hid=>hh.fresh id (by rw [bV hk] at hid;exact hid)) (fun id o h=>?_) (fun b hb=>?_) (fun id id' o o' u u' b g1 g2 g3 g4 g5 g6=>?_)
 ·rw [aM hk] at h
  split at h
  ·rename_i e;subst e;cases h;exact .inr ⟨v,hv,ho.boxSet hj hxy⟩
  ·exact .inl h
 ·obtain ⟨id,o,u,g1,g2,g3⟩:=hb
  obtain ⟨o0,a1,a2⟩:=hB id o g1
  exact ⟨id,o0,u,a1,g2,a2 u b g3⟩
 ·obtain ⟨o0,a1,a2⟩:=hB id o g1
  obtain ⟨o1,c1,c2⟩:=hB id' o' g2
  exact hh.inj id id' o0 o1 u u' b a1 c1 g3 g4 (a2 u b g5) (c2 u' b g6)
theorem J9 (k j:Nat) {p:Nat} {ty el:TypeId} {cells:List DV} {es:List (List DV)} {ds:List (List aR)} (hk:σ.look k=some (.box ty cells)) (hj:cells[j]? = some (.arr p)) (hpl:σ.look p=some (.arr el es)) (hd:gM es=some ds)
  (h:J e ((σ.put p none).put k (some (.box ty (cells.set j (.d (.lst ds))))))):SC P e σ J:=by
 have hkp:k≠p:=by rintro rfl;rw [hk] at hpl;cases hpl
 have hk2:(σ.put p none).look k=some (.box ty cells):=by rw [aM hpl,if_neg hkp];exact hk
 exact kL (α:=Unit) (S:=fun _=>(σ.put p none).put k (some (.box ty (cells.set j (.d (.lst ds)))))) (E:=fun _=>e) (fun X ι w hh=>by
  have h1:=Comes'.freed hh (a7 hpl)
  have h5:=B9 h1.heap hk2 hj (fun u hr=>by
   cases hr with
   | arr _ _ hi _=>exact .d (FC hh hi hpl hd))
  exact ⟨(),ι,h1.trans h5,fun _ _=>rfl,iM (fun _ _ h=>h)⟩) (fun _=>Nat.le_trans (cX _ _ _) (cX _ _ _)) (fun _=>h)
end
section
variable {P:Program} {nt i:Nat} {K:aW→aA→Prop} {e:aW} {σ σ':aA} {ops:Array Oper} {seen:List Nat} {lt:List dQ} {rest:List (Nat × Oper)} {o:Oper} {d:DV} {R W:List Nat}
theorem OL (hw:aT ops o e=some true) (hd:o.dst=none) (h:aZ P o.op e σ σ.length=some (none,σ')) (hm:iF o.op=false) (hR:dA o.op e=R) (hW:bF o.op e σ.length=W) (hc:SO ops i lt (bN o) R W=true)
  (k:bO P nt ops K (i::seen) (⟨i,o.dst,o.looksAt ops,R,W⟩::lt) rest e σ'):bR P nt ops K seen lt ((i,o)::rest) e σ:=by
 subst hR hW
 refine ⟨⟨fun hx hp=>?_⟩⟩
 obtain ⟨h1,h2,h3⟩:=jL hp
 exact .none (hx (i,o) eS) h1 hw hd h hm (xF h2 hc) (k.h (fun p hp=>hx p (by simp [hp])) (h3 _ _))
theorem SM {t ty el:TypeId} {pos:String} {after:Array Edge} {gd:Option (Nat × Bool)} {a x:Operand} {id j sz off m:Nat} {es:List (List DV)} {c:List DV} (hw:aT ops ⟨none,.store t a x,ty,pos,after,gd⟩ e=some true) (hx:e.ev x=some d) (him:(P.info? t).map (·.size)=some m) (hc:(eO d && (aH d).length == m)=true) (ha:e.ev a=some (.eptr id j sz off)) (hl:σ.look id=some (.arr el es)) (hk:es[j]? = some c) (hsz:P.cellsOf el=sz)
  (hle:off + m≤c.length) (hs:σ.put id (some (.arr el (es.set j (c.take off++aH d++c.drop (off + m)))))=σ') (hok:SO ops i lt (bN ⟨none,.store t a x,ty,pos,after,gd⟩) [] [id]=true)
  (k:bO P nt ops K (i::seen) (⟨i,none,Oper.looksAt ops ⟨none,.store t a x,ty,pos,after,gd⟩,[],[id]⟩::lt) rest e σ'):bR P nt ops K seen lt ((i,⟨none,.store t a x,ty,pos,after,gd⟩)::rest) e σ:=by
 obtain ⟨inf,hi,hm⟩:=Option.map_eq_some_iff.1 him
 subst hm hs hsz
 exact OL hw rfl (by simp only [aZ,dW,hi,hx,hc,if_true,ha,hl,hk,hle,and_self,Option.map]) rfl rfl (by simp only [bF,ha,eQ]) hok k
end
theorem AK:∀ (y:List aR),jH (y.map DV.d)=some y
 | []=>rfl
 | a::y=>by simp [jH,AK y]
theorem sA:∀ (l:List (List aR)),gM (aO l)=some l
 | []=>rfl
 | x::l=>by
  have h:aO (x::l)=x.map DV.d::aO l:=rfl
  rw [h]
  simp [gM,AK,sA l]
end Go.Ab
namespace Go.Ab
open Go Go.Ab.Tryz Go.Proofs
theorem TT {P:Program} {e:aW} {R:DV→aA→Prop} {fn:Func} {ex:Exit} {l:List ResultVar} {run:TypeId} {c:List Fc} {post:List aR} {gr:List (Value × Fm)} {ss:List Va} {f pc tt:Int} {L:aA} (hrs:fn.results=l.toArray) (hex:(match ex with | .normal=>true | .ret=>true | _=>false)=true)
  (k:vT P e (some (.box run (bC c :: .arr 1::post.map .d))::some (.arr 63 (d4 gr++[[iv f,iv pc,iv tt,.arr 2]]))::some (.arr 35 (aS ss))::L) R 3 l []) :
  Fin P fn 3 R ex e (some (.box run (bC c :: .arr 1::post.map .d))::some (.arr 63 (d4 gr++[[iv f,iv pc,iv tt,.arr 2]]))::some (.arr 35 (aS ss))::L) :=
 aP 3 hrs hex rfl (by
  simp only [eJ,List.take_succ_cons,List.take_zero,List.all_cons,List.all_nil,b5,c5]
  refine ⟨?_,lL rfl,eB⟩
  simp only [aU.under,DV.unders,DV.under,b6]
  rw [fB];rfl) k
theorem MZ (post:List aR) (c:List Fc) (t:Fm) (gr:List (Value × Fm)) (n:Int) (v:Va) (f:Fa) (hg:gr.length≤1000) (hf:f.k=0) (hn:n≥0→n < (t.slots.length:Int)) (hp:0≤t.pc∧t.pc < 4000) :
  aB Tryz.prog 59 [.ptr 0 0,iv n,v.dv,f.dv] (NV 108 post c t gr) (fun r s=>r = .tup []∧s=NV 108 post c (dS (if n≥0 then fK t n v else t)) gr):=by
 have hw:IntKind.i64.wrap (t.pc + 1)=t.pc + 1:=aL aI aI
 have hf0:decide (f.k≠0)=false:=decide_eq_false (by simpa using hf)
 refine of_body Tryz.func59 rfl rfl (nB rfl) ?_
 rw [Tryz.ntmps59]
 repeat' (first | ((with_reducible refine kw ?_);first | refine W0 ?_ | refine W1 ?_ | (refine f9 ?_;refine KW ?_) | refine W2 ?_ | refine W4 ?_ | refine W6 ?_ | (refine aJ ?_;first | refine bB rfl rfl rfl rfl (aB.ret (aB.readsL (kJ post c (fK t n v) gr hg) [0,1,2] rfl (mF (post:=post) rfl rfl rfl) rfl rfl rfl rfl _ (fun _ _=>rfl)) ?_) | refine bB rfl rfl rfl rfl (aB.ret (aB.readsL (kJ post c t gr hg) [0,1,2] rfl (mF (post:=post) rfl rfl rfl) rfl rfl rfl rfl _ (fun _ _=>rfl)) ?_)) | (refine aE ?_;refine IB ?_) | refine cW ?_) | refine GN ?_ | ((with_reducible refine kd ?_);first | refine D0 ?_ | refine D1 ?_ | (refine dI ?_;refine BU ?_) | refine D3 ?_ | refine D4 ?_ | (refine bM ?_;(refine eM [0,1,2] rfl rfl rfl rfl (aB.readsL (kJ post c t gr hg) [0,1,2] rfl (mF (post:=post) rfl rfl rfl) rfl rfl rfl rfl) rfl ?_)) | (refine c7 ?_;refine dC (eG (el rfl) rfl rfl rfl (sz rfl) (oT ‹decide (n≥0)=true›) (hn (oT ‹decide (n≥0)=true›))) rfl rfl rfl rfl ?_) | (refine aV ?_;refine mW rfl rfl (kY rfl) rfl rfl (sz rfl) (oT ‹decide (n≥0)=true›) (hn (oT ‹decide (n≥0)=true›)) (eH.eq mD) rfl ?_)) | refine GA ?_ | refine GG ?_ | (refine cJ (fun hb=>?_) (fun hb=>?_) <;> try rw [hb]) | ((with_reducible refine kf ?_);refine TT Tryz.results59 rfl ?_) | ((with_reducible refine kr ?_);refine bD rfl rfl ?_) | fail)
 ·have h1:=oT ‹decide (n≥0)=true›
  rw [if_pos h1]
  have e2:dS (fK t n v)=⟨t.fn,IntKind.i64.wrap (t.pc + 1),t.to,t.slots.set n.toNat v⟩:=by rw [hw];rfl
  rw [e2];exact ⟨rfl,rfl⟩
 ·have h1:=oF ‹decide (n≥0)=false›
  rw [if_neg h1]
  have e2:dS t=⟨t.fn,IntKind.i64.wrap (t.pc + 1),t.to,t.slots⟩:=by rw [hw];rfl
  rw [e2];exact ⟨rfl,rfl⟩
theorem MY {σ:aA} {post:List aR} {c:List Fc} {t:Fm} {gr:List (Value × Fm)} {m:Int} {v:Va} {f:Fa} {k n p:Nat} (hg:gr.length≤1000) (hf:f.k=0) (hn:m≥0→m < (t.slots.length:Int)) (hp:0≤t.pc∧t.pc < 4000)
  (h0:σ.look k=some (.box 108 (bC c :: .arr n::post.map .d))) (h1:σ.look n=some (.arr 63 (d4 gr++[iD t (.arr p)]))) (h2:σ.look p=some (.arr 35 (aS t.slots))) (hd:lC [k,n,p]=true) :
  aB Tryz.prog 59 [.ptr k 0,iv m,v.dv,f.dv] σ (fun r s=>r = .tup []∧s=(σ.put n (some (.arr 63 (d4 gr++[iD (dS (if m≥0 then fK t m v else t)) (.arr p)])))).put p (some (.arr 35 (aS (dS (if m≥0 then fK t m v else t)).slots)))):=by
 have b:∀ {k:Nat} {o:aU},σ.look k=some o→k < σ.length:=fun h=>a7 h
 have hnd:=m5 hd
 refine (aB.within (MZ post c t gr m v f hg hf hn hp) [k,n,p] (gR.lies (FL h0 h1 h2 hd) hd) rfl (args':=[.ptr k 0,iv m,v.dv,f.dv]) rfl).mono ?_
 rintro r s ⟨r0,σ0,⟨rfl,rfl⟩,_,rfl,rfl⟩
 refine ⟨rfl,?_⟩
 generalize dS (if m≥0 then fK t m v else t)=t'
 have e0:(aU.box 108 (bC c :: .arr 1::post.map .d)).ren (bL [k,n,p] σ.length) = .box 108 (bC c :: .arr n::post.map .d):=qA
 have e1:(aU.arr 63 (d4 gr++[iD t' (.arr 2)])).ren (bL [k,n,p] σ.length) = .arr 63 (d4 gr++[iD t' (.arr p)]):=yR
 have e3:(aU.arr 35 (aS t'.slots)).ren (bL [k,n,p] σ.length) = .arr 35 (aS t'.slots):=fL
 simp only [kC,dX,Option.map_some,List.map_nil,List.append_nil,e0,e1,e3]
 rw [qS h0,show ∀ X,σ.put n X=List.set σ n X from fun X=>by rw [aA.put_eq,if_pos (b h1)],aA.put_eq,if_pos (by rw [List.length_set];exact b h2)]
theorem zG {k:Nat} (h:k * 32≤140737488351232):vB k 32=true:=by
 unfold vB gY
 simp only [c5,dT]
 omega
theorem J5 {l:List Fm} {i:Nat} (h:i < l.length):aO ((l.take i).map Fm.enc)++[[iv (aC l (i:Int)).fn,iv (aC l (i:Int)).pc,iv (aC l (i:Int)).to,lv ((aC l (i:Int)).slots.map Va.enc)]]=aO ((l.take (i + 1)).map Fm.enc):=by
 rw [gL h];simp [aO]
theorem J0 (l:List Fm) (hl:l.length≤1000) (hs:∀ t ∈ l,t.slots.length * 32≤140737488351232) :
  aB Tryz.prog 41 [lv (l.map Fm.enc)] [] (fun r s=>r = .arr 2∧s=[none,none,some (.arr 63 (aO (l.map Fm.enc)))]):=by
 refine fW Tryz.func41 rfl rfl (nB rfl) ?_
 rw [Tryz.ntmps41]
 repeat' (first | ((with_reducible refine kw ?_);first | refine W0 ?_ | refine W1 ?_ | refine W3 ?_ | refine W2 ?_ | refine W6 ?_ | refine bJ ?_ | refine wR ?_ | (refine aE ?_;refine q8 ?_) | refine gZ ?_ | refine dH ?_ | refine KS ?_ | (refine vQ ?_;first | refine cK (fY (el rfl) (sl rfl) rfl rfl rfl (ap rfl) (mM rfl rfl) (iI eS) (g7 (by simp [aO];omega) cN)) rfl rfl ?_ | refine cK (fY (el rfl) (sl rfl) rfl rfl rfl (ap rfl) rfl (iI eS) (zG (by have:=hs (aC l (i:Int)) (by rw [bK (by have:=(oT ‹decide ((i:Int) < (l.length:Int))=true›);omega)];exact List.getElem_mem _);simpa using this))) rfl rfl ?_)) | refine GA ?_ | refine GG ?_ | (refine cJ (fun hb=>?_) (fun hb=>?_) <;> try rw [hb]) | ((with_reducible refine tO ?_);refine j7 Tryz.results41 rfl ?_) | refine GS ?_ | fail)
 refine dB (kK 63 ?_)
 refine dB (DS 3 63 rfl ?_)
 refine dB (qR 3 (m:=0) (s:=[]) rfl rfl rfl rfl fun u=>?_)
 refine cF [0,3,4] rfl ?_
 refine jY 2 (n:=_) (fun n e σ=>∃ (i:Nat) (m:Int) (u:Value),n=l.length - i∧(m=i∧i≤l.length)∧e=[(0,_),(3,.d (.sc u)),(4,iv m)]∧σ=[some (bS Tryz.prog 63 [(u,(l.take i).map Fm.enc)]),none]) rfl ⟨0,0,u,rfl,⟨rfl,Nat.zero_le _⟩,rfl,rfl⟩ ?_
 rintro n e σ ⟨i,m,u,rfl,⟨rfl,hi⟩,rfl,rfl⟩
 refine dB (wK 3 (m:=0) rfl hP rfl ?_)
 repeat' (first | ((with_reducible refine kw ?_);first | refine W0 ?_ | refine W1 ?_ | refine W3 ?_ | refine W2 ?_ | refine W6 ?_ | refine bJ ?_ | refine wR ?_ | (refine aE ?_;refine q8 ?_) | refine gZ ?_ | refine dH ?_ | refine KS ?_ | (refine vQ ?_;first | refine cK (fY (el rfl) (sl rfl) rfl rfl rfl (ap rfl) (mM rfl rfl) (iI eS) (g7 (by simp [aO];omega) cN)) rfl rfl ?_ | refine cK (fY (el rfl) (sl rfl) rfl rfl rfl (ap rfl) rfl (iI eS) (zG (by have:=hs (aC l (i:Int)) (by rw [bK (by have:=(oT ‹decide ((i:Int) < (l.length:Int))=true›);omega)];exact List.getElem_mem _);simpa using this))) rfl rfl ?_)) | ((with_reducible refine ka ?_);first | ((with_reducible refine i5 9 ?_);refine dB (qP 0 rfl ?_);refine fI ?_) | ((with_reducible refine QE 8 ?_);refine dB (J9 3 3 rfl rfl rfl (sA _) ?_))) | refine GA ?_ | refine GG ?_ | (refine cJ (fun hb=>?_) (fun hb=>?_) <;> try rw [hb]) | ((with_reducible refine tO ?_);refine j7 Tryz.results41 rfl ?_) | refine GS ?_ | fail)
 all_goals first
  | (have hlt:=oT hb;refine gE (qR 3 (m:=0) (s:=(l.take (i + 1)).map Fm.enc) rfl rfl (J5 aI) rfl fun u2=>?_);refine gE (jM [0,3,4] rfl ?_);refine gU 2 rfl rfl rfl ?_;refine gT ⟨_,?_,i + 1,_,u2,rfl,⟨aL aI aI,by omega⟩,rfl,rfl⟩;omega)
  | (have hge:=oF hb;have e:i=l.length:=aI;subst e;rw [List.take_length];exact ⟨rfl,rfl⟩)
  | skip
theorem J2 (l:List Fm) (hl:l.length≤1000) (hs:∀ t ∈ l,t.slots.length≤1000) :
  aB Tryz.prog 41 [lv (l.map Fm.enc)] [] (fun r s=>r = .arr 3∧∃ gs,gs.map (·.2)=l.reverse∧s=[some (iB gs),none,none,some (.arr 63 (d4 gs))]):=by
 refine fW Tryz.func41 rfl rfl (nB rfl) ?_
 rw [Tryz.ntmps41]
 repeat' (first | ((with_reducible refine kw ?_);first | refine W0 ?_ | refine W1 ?_ | refine W3 ?_ | refine W2 ?_ | refine W6 ?_ | refine bJ ?_ | refine wR ?_ | (refine aE ?_;refine q8 ?_) | refine gZ ?_ | refine dH ?_ | refine KS ?_ | (refine vQ ?_;first | refine cK (fY (el rfl) (sl rfl) rfl rfl rfl (ap rfl) (mM rfl rfl) (iI eS) (g7 (by show (aO (gI gq)).length + 1≤_;have:=@f6 gq;unfold d4 at this;omega) cN)) rfl rfl ?_ | refine cK (fY (el rfl) (sl rfl) rfl rfl rfl (ap rfl) rfl (iI eS) (g7 (by have:=hs (aC l (i:Int)) (by rw [bK (by have:=(oT ‹decide ((i:Int) < (l.length:Int))=true›);omega)];exact List.getElem_mem _);simp;omega) cN)) rfl rfl ?_)) | refine GA ?_ | refine GG ?_ | (refine cJ (fun hb=>?_) (fun hb=>?_) <;> try rw [hb]) | ((with_reducible refine tO ?_);refine j7 Tryz.results41 rfl ?_) | refine GS ?_ | fail)
 refine dB (kK 35 ?_)
 refine dB (kK 63 ?_)
 refine dB (DS 3 63 rfl ?_)
 refine dB (qR 3 (m:=1) (s:=[]) rfl rfl rfl rfl fun u=>?_)
 refine cF [0,3,4] rfl ?_
 refine jY 3 (n:=_) (fun n e σ=>∃ (i:Nat) (m:Int) (u:Value) (gq:List (Value × Fm)),n=l.length - i∧(m=i∧i≤l.length∧gq.map (·.2)=(l.take i).reverse)∧e=[(0,_),(3,.d (.sc u)),(4,iv m)]∧σ=[some (iB gq),some (bS Tryz.prog 63 [(u,gI gq)]),none]) rfl ⟨0,0,u,[],rfl,⟨rfl,Nat.zero_le _,rfl⟩,rfl,rfl⟩ ?_
 rintro n e σ ⟨i,m,u,gq,rfl,⟨rfl,hi,hg⟩,rfl,rfl⟩
 have hgl:gq.length=i:=by have:=congrArg List.length hg;simp at this;omega
 refine dB (wK 3 (m:=1) rfl hP rfl ?_)
 repeat' (first | ((with_reducible refine kw ?_);first | refine W0 ?_ | refine W1 ?_ | refine W3 ?_ | refine W2 ?_ | refine W6 ?_ | refine bJ ?_ | refine wR ?_ | (refine aE ?_;refine q8 ?_) | refine gZ ?_ | refine dH ?_ | refine KS ?_ | (refine vQ ?_;first | refine cK (fY (el rfl) (sl rfl) rfl rfl rfl (ap rfl) (mM rfl rfl) (iI eS) (g7 (by show (aO (gI gq)).length + 1≤_;have:=@f6 gq;unfold d4 at this;omega) cN)) rfl rfl ?_ | refine cK (fY (el rfl) (sl rfl) rfl rfl rfl (ap rfl) rfl (iI eS) (g7 (by have:=hs (aC l (i:Int)) (by rw [bK (by have:=(oT ‹decide ((i:Int) < (l.length:Int))=true›);omega)];exact List.getElem_mem _);simp;omega) cN)) rfl rfl ?_)) | ((with_reducible refine ka ?_);first | ((with_reducible refine i5 9 ?_);refine dB (qP 1 rfl ?_);refine fI ?_) | ((with_reducible refine QE 8 ?_);refine dB (qQ 4 3 (m:=0) (p:=5) rfl rfl rfl rfl rfl fun w=>?_))) | refine GA ?_ | refine GG ?_ | (refine cJ (fun hb=>?_) (fun hb=>?_) <;> try rw [hb]) | ((with_reducible refine tO ?_);refine j7 Tryz.results41 rfl ?_) | refine GS ?_ | fail)
 all_goals first
  | (have hlt:=oT hb;refine gE (qR 3 (m:=1) (s:=gI ((w,aC l (i:Int))::gq)) rfl rfl (fM (u:=w) (t:=aC l (i:Int)) (gr:=gq)).symm rfl fun u2=>?_);refine gE (jM [0,3,4] rfl ?_);refine gU 3 rfl rfl rfl ?_;refine gT ⟨_,?_,i + 1,_,u2,(w,aC l (i:Int))::gq,rfl,⟨aL aI aI,by omega,by rw [gL aI,List.reverse_append,List.map_cons,hg];rfl⟩,rfl,rfl⟩;omega)
  | (have hge:=oF hb;have e:i=l.length:=aI;subst e;rw [List.take_length] at hg;exact ⟨rfl,gq,hg,rfl⟩)
  | skip
def BI (a:Ak):Int:=bif decide (a.kind=15) then (bif decide (a.n=1) then (a.arms.length:Int) else iA ((a.arms.length:Int) - 1)) else 0
def uZ (a:Ak) (x:An):Bool :=
 bif decide (a.kind < 1) || (decide (a.kind > 21) || (!cQ x.v.k x.v.n x.v.s || !gW x.f.k x.f.t)) then false
 else bif decide (x.f.k≠0) then (bif decide (x.f.k=2) && (!sN a.kind && decide (a.kind≠17)) then false else m6 x.v && decide (x.ix=0))
 else decide (x.ix≥0) && (decide (x.ix≤BI a) && decide (x.v.k=zE a x.ix))
theorem MX (a:Ak):BI a=zU a:=by
 unfold BI zU
 by_cases h:a.kind=15 <;> simp [h]
theorem DK (a:Ak) (x:An):uZ a x=tH a x:=by
 unfold uZ tH xE A8
 rw [MX]
 by_cases h1:a.kind < 1
 ·rw [decide_eq_true h1,decide_eq_false (show ¬ a.kind≥1 by omega)]
  simp
 rw [decide_eq_false h1,decide_eq_true (show a.kind≥1 by omega)]
 by_cases h2:a.kind > 21
 ·rw [decide_eq_true h2,decide_eq_false (show ¬ a.kind≤21 by omega)]
  simp
 rw [decide_eq_false h2,decide_eq_true (show a.kind≤21 by omega)]
 cases cQ x.v.k x.v.n x.v.s
 ·simp
 cases gW x.f.k x.f.t
 ·simp
 by_cases h3:x.f.k=0
 ·simp [h3]
 by_cases h4:x.f.k=2
 ·simp only [h4,h3,decide_true,decide_false,b2,b9,c0,cond_false,cond_true,b6,ne_eq,not_false_eq_true,decide_not]
  cases sN a.kind <;> cases decide (a.kind=17) <;> simp
 ·simp [h3,h4]
theorem J6 (a:Ak) :
  bY Tryz.prog 103 [a.dv] (bv (sN a.kind)):=by
 refine of_body Tryz.func103 rfl rfl (nB rfl) ?_
 rw [Tryz.ntmps103]
 repeat' (first | ((with_reducible refine kw ?_);first | refine W1 ?_ | refine W2 ?_ | refine W6 ?_ | refine bJ ?_ | refine cW ?_) | refine GA ?_ | refine GG ?_ | (refine cJ (fun hb=>?_) (fun hb=>?_) <;> try rw [hb]) | ((with_reducible refine kf ?_);refine aP 0 Tryz.results103 rfl rfl rfl ?_) | refine GR ?_ | ((with_reducible refine kr ?_);refine aG rfl ?_) | fail)
 all_goals (refine dG ?_;show bv _=bv _;(try dsimp only [sN] at *);first | (simp only [*,b2,b3,b4,cond_true,cond_false,b5,b6,b7,b8,c1,c2,b9,c0];done) | (simp_all only [b2,b3,b4,cond_true,cond_false,b5,b6,b7,b8,c1,c2,b9,c0];done) | (simp_all [b2,b3,b4,cond_true,cond_false,b5,b6,b7,b8,c1,c2,b9,c0];done))
theorem MW (a:Ak) (i:Int) (hi:0≤i) :
  bY Tryz.prog 104 [a.dv,iv i] (iv (zE a i)):=by
 refine of_body Tryz.func104 rfl rfl (nB rfl) ?_
 rw [Tryz.ntmps104]
 repeat' (first | ((with_reducible refine kw ?_);first | refine Wg ?_ | refine W0 ?_ | refine W1 ?_ | refine W2 ?_ | refine W6 ?_ | refine bJ ?_ | (refine fO ?_;refine cK (aF (el rfl) rfl rfl hi (oT ‹decide (i < (a.arms.length:Int))=true›) ⟨rfl,by decide⟩) rfl rfl ?_) | refine eT ?_ | refine gZ ?_ | refine cW ?_) | refine GX ?_ | (refine bW (fun hb=>?_) (fun hb=>?_) <;> rw [hb]) | refine GA ?_ | refine GG ?_ | (refine cJ (fun hb=>?_) (fun hb=>?_) <;> try rw [hb]) | ((with_reducible refine kf ?_);refine aP 0 Tryz.results104 rfl rfl rfl ?_) | refine GR ?_ | ((with_reducible refine kr ?_);refine aG rfl ?_) | fail)
 all_goals (refine dG ?_;show iv _=iv _;(try dsimp only [zE] at *);first | (simp only [*,b2,b3,b4,cond_true,cond_false,b5,b6,b7,b8,c1,c2,b9,c0];done) | (simp_all only [b2,b3,b4,cond_true,cond_false,b5,b6,b7,b8,c1,c2,b9,c0];done) | (simp_all [b2,b3,b4,cond_true,cond_false,b5,b6,b7,b8,c1,c2,b9,c0];done))
theorem PP (a:Ak) (x:An) :
  bY Tryz.prog 58 [a.dv,x.dv] (bv (uZ a x)):=by
 refine of_body Tryz.func58 rfl rfl (nB rfl) ?_
 rw [Tryz.ntmps58]
 repeat' (first | ((with_reducible refine kw ?_);first | refine Wg ?_ | refine W0 ?_ | refine W1 ?_ | refine W2 ?_ | refine W3 ?_ | refine W6 ?_ | refine W8 ?_ | refine bJ ?_ | (refine aJ ?_;first | refine tD (iU _ _ _) ?_ | refine tD (AP _ _) ?_ | refine tD (J6 a) ?_) | refine eT ?_ | refine gQ ?_ | refine gZ ?_ | refine cW ?_ | refine eV ?_) | refine GX ?_ | (refine bW (fun hb=>?_) (fun hb=>?_) <;> rw [hb]) | refine GN ?_ | refine GD ?_ | (refine kX (fun hb=>?_) (fun hb=>?_) <;> rw [hb]) | ((with_reducible refine kd ?_);first | refine D0 ?_ | refine D1 ?_ | refine D2 ?_ | refine D3 ?_ | refine D6 ?_ | refine iY ?_ | (refine bM ?_;refine dD (MW a x.ix (oT ‹decide (x.ix≥0)=true›)) ?_) | refine uF ?_) | refine GA ?_ | refine GG ?_ | (refine cJ (fun hb=>?_) (fun hb=>?_) <;> try rw [hb]) | ((with_reducible refine kf ?_);refine aP 0 Tryz.results58 rfl rfl rfl ?_) | refine GR ?_ | ((with_reducible refine kr ?_);refine aG rfl ?_) | fail)
 all_goals (refine dG ?_;show bv _=bv _;(try dsimp only [uZ,BI,m6] at *);first | (simp only [*,b2,b3,b4,cond_true,cond_false,b5,b6,b7,b8,c1,c2,b9,c0];done) | (simp_all only [b2,b3,b4,cond_true,cond_false,b5,b6,b7,b8,c1,c2,b9,c0];done) | (simp_all [b2,b3,b4,cond_true,cond_false,b5,b6,b7,b8,c1,c2,b9,c0];done))
def LJ (t:Fm):Fm:=⟨t.fn,t.pc,t.to,t.slots.take 300⟩
def jT (fs:List Fm):List Fm:=(fs.take 25).map LJ
theorem SP (fs:List Fm) (n:Nat) (hn:fs.take n=fs.take 25) (hs:∀ t ∈ fs,t.slots.length * 32≤140737488351232) :
  aB Tryz.prog 41 [.d (.lst (((fs.map Fm.enc).drop 0).take n))] [] (fun r s=>r = .arr 2∧s=[none,none,some (.arr 63 (aO ((fs.take 25).map Fm.enc)))]):=by
 rw [List.drop_zero,← List.map_take,hn]
 exact J0 _ KT (fun t ht=>hs t (List.mem_of_mem_take ht))
abbrev nS (F:List Fm) (i:Nat):List (List DV):=aO (((F.take i).map LJ).map Fm.enc)
theorem TS {F:List Fm} {i n:Nat} {x:List DV} {R:List (List DV)} (h:i≤F.length) (hn:n=i):(nS F i++(x::R))[n]? = some x:=by
 subst hn
 have hl:(nS F n).length=n:=by simp [nS,aO];omega
 rw [List.getElem?_append_right (by rw [hl];exact Nat.le_refl _),hl,Nat.sub_self];rfl
theorem L2 {F:List Fm} {i n:Nat} {x:List DV} {R:List (List DV)} (h:i≤F.length) (hn:n=i) (y:List DV):(nS F i++(x::R)).set n y=nS F i++(y::R):=by
 subst hn
 have hl:(nS F n).length=n:=by simp [nS,aO];omega
 rw [List.set_append_right _ _ (by rw [hl];exact Nat.le_refl _),hl,Nat.sub_self];rfl
theorem PZ {A R:List (List aR)}:eJ 3 [none,none,some (.arr 63 (aO A++aO R)),none]=true:=by
 have h:(aU.arr 63 (aO A++aO R)).under 3=true:=by
  have:aO A++aO R=aO (A++R):=by simp [aO]
  rw [this]
  simp only [aU.under,aO,List.all_map,List.all_eq_true]
  intro r _
  exact fB 3 r
 unfold eJ
 simp only [List.take,List.all_cons,h]
 rfl
theorem I6 {F:List Fm} {i:Nat} (h:i < F.length) (R:List (List DV)):nS F i++((LJ (aC F (i:Int))).enc.map DV.d::R)=nS F (i + 1)++R:=by
 unfold nS;rw [gL h];simp [aO]
theorem L3 (fs:List Fm) (hs:∀ t ∈ fs,t.slots.length * 32≤140737488351232) :
  aB Tryz.prog 20 [lv (fs.map Fm.enc)] [] (fun r s=>cA Tryz.prog s r (lv ((jT fs).map Fm.enc))):=by
 refine aB.assume rfl fun hok _=>?_
 have hlen:=dK (hok (lv (fs.map Fm.enc)) eS)
 simp only [List.length_map] at hlen
 refine fW Tryz.func20 rfl rfl (nB rfl) ?_
 rw [Tryz.ntmps20]
 repeat' (first | ((with_reducible refine kw ?_);first | refine W0 ?_ | refine W6 ?_ | refine bJ ?_ | (refine aJ ?_;refine bB rfl rfl rfl rfl (aB.ret (SP fs _ (by rw [List.take_eq_take_iff];split <;> omega) hs) ?_)) | refine gZ ?_ | refine W25 ?_ | (refine BS ?_;refine cK (NE (el rfl) rfl (OF rfl (by first | omega | (split <;> omega)) (by simp only [List.length_map];split <;> omega)) aAK eS) rfl rfl ?_) | refine W45 ?_) | refine GN ?_ | ((with_reducible refine kd ?_);first | refine D0 ?_ | refine D1 ?_ | (refine dI ?_;refine dC (mQ (ag rfl) rfl rfl (sz rfl) (TS hi rfl) rfl) rfl rfl rfl rfl ?_) | (refine c7 ?_;refine dC (BP (el rfl) rfl rfl rfl aI hlen2 (sz rfl)) rfl rfl rfl rfl ?_) | (refine aV ?_;refine SM rfl rfl (kY rfl) rfl rfl rfl (TS hi rfl) (sz rfl) (by show 4≤4;omega) rfl rfl ?_) | refine BT ?_ | (refine j5 ?_;refine TH (NE (el rfl) rfl (OF rfl (by first | omega | (split <;> omega)) (by simp only [List.length_map];split <;> omega)) aAK eS) rfl rfl rfl rfl rfl ?_) | refine D49 ?_) | refine GA ?_ | refine GG ?_ | ((with_reducible refine tO ?_);refine j7 Tryz.results20 rfl ?_) | refine GS ?_ | fail)
 generalize hF:fs.take 25=F
 have hFl:F.length≤25:=by rw [← hF];simp;omega
 refine cF [3,4] rfl ?_
 refine fS 3 (n:=_) (fun n e σ=>∃ (i:Nat) (m:Int),n=F.length - i∧(m=i∧i≤F.length)∧e=[(3,_),(4,iv m)]∧σ=[none,none,some (.arr 63 (nS F i++aO ((F.drop i).map Fm.enc)))]) rfl ⟨0,0,rfl,⟨rfl,Nat.zero_le _⟩,rfl,rfl⟩ ?_
 rintro n e σ ⟨i,m,rfl,⟨rfl,hi⟩,rfl,rfl⟩
 have hll:((nS F i++aO ((F.drop i).map Fm.enc)).length:Int)=F.length:=by simp [nS,aO];omega
 by_cases hlt:i < F.length
 ·have hb:decide ((i:Int) < ((nS F i++aO ((F.drop i).map Fm.enc)).length:Int))=true:=decide_eq_true (by rw [hll];omega)
  have hd:F.drop i=aC F (i:Int)::F.drop (i + 1):=by rw [bK hlt];exact List.drop_eq_getElem_cons hlt
  have hlen2:(i:Int) < ((nS F i++aO ((F.drop i).map Fm.enc)).length:Int):=by rw [hll];omega
  have hls:(aC F (i:Int)).slots.length≤9223372036854775807:=by
   have:=hs (aC F (i:Int)) (by rw [bK hlt];exact List.mem_of_mem_take (by rw [hF];exact List.getElem_mem _))
   omega
  rw [hd] at hb hlen2 ⊢
  repeat' (first | ((with_reducible refine kw ?_);first | refine W0 ?_ | refine W6 ?_ | refine bJ ?_ | refine gZ ?_ | refine W25 ?_ | (refine BS ?_;refine cK (NE (el rfl) rfl (OF rfl (by first | omega | (split <;> omega)) (by simp only [List.length_map];split <;> omega)) aAK eS) rfl rfl ?_) | refine W45 ?_) | refine GN ?_ | ((with_reducible refine kd ?_);first | refine D0 ?_ | refine D1 ?_ | (refine dI ?_;refine dC (mQ (ag rfl) rfl rfl (sz rfl) (TS hi rfl) rfl) rfl rfl rfl rfl ?_) | (refine c7 ?_;refine dC (BP (el rfl) rfl rfl rfl aI hlen2 (sz rfl)) rfl rfl rfl rfl ?_) | (refine aV ?_;refine SM rfl rfl (kY rfl) rfl rfl rfl (TS hi rfl) (sz rfl) (by show 4≤4;omega) rfl rfl ?_) | refine BT ?_ | (refine j5 ?_;refine TH (NE (el rfl) rfl (OF rfl (by first | omega | (split <;> omega)) (by simp only [List.length_map];split <;> omega)) aAK eS) rfl rfl rfl rfl rfl ?_) | refine D49 ?_) | refine GA ?_ | refine GG ?_ | ((with_reducible refine tO ?_);refine j7 Tryz.results20 rfl ?_) | refine GS ?_ | fail)
  have e:∀ n:Nat,(aC F (i:Int)).slots.take n=(aC F (i:Int)).slots.take 300→(nS F i++aO ((aC F (i:Int)::F.drop (i + 1)).map Fm.enc)).set (i:Int).toNat [iv (aC F (i:Int)).fn,iv (aC F (i:Int)).pc,iv (aC F (i:Int)).to,.d (.lst ((List.drop 0 ((aC F (i:Int)).slots.map Va.enc)).take n))]=nS F (i + 1)++aO ((F.drop (i + 1)).map Fm.enc):=fun n hn=>by
   rw [List.drop_zero,← List.map_take,hn]
   rw [← I6 hlt]
   exact L2 hi rfl _
  have e2:=e ((if 300 < ((aC F (i:Int)).slots.length:Int) then 300 else ((aC F (i:Int)).slots.length:Int)).toNat - 0) (by rw [List.take_eq_take_iff];split <;> omega)
  refine ⟨_,_,?_,aW.pick_get _ [3,4],⟨rfl,?_⟩,i + 1,_,rfl,⟨aL aI aI,by omega⟩,rfl,?_⟩
  ·omega
  ·have hU:=@PZ (((F.take (i + 1)).map LJ).map Fm.enc) ((F.drop (i + 1)).map Fm.enc)
   rw [show aO (((F.take (i + 1)).map LJ).map Fm.enc)=nS F (i + 1) from rfl,← e2] at hU
   exact hU
  ·rw [← e2];rfl
 ·have hb:decide ((i:Int) < ((nS F i++aO ((F.drop i).map Fm.enc)).length:Int))=false:=decide_eq_false (by rw [hll];omega)
  repeat' (first | ((with_reducible refine kw ?_);first | refine W0 ?_ | refine W6 ?_ | refine bJ ?_ | refine gZ ?_ | refine W25 ?_ | (refine BS ?_;refine cK (NE (el rfl) rfl (OF rfl (by first | omega | (split <;> omega)) (by simp only [List.length_map];split <;> omega)) aAK eS) rfl rfl ?_) | refine W45 ?_) | refine GN ?_ | ((with_reducible refine kd ?_);first | refine D0 ?_ | refine D1 ?_ | (refine dI ?_;refine dC (mQ (ag rfl) rfl rfl (sz rfl) (TS hi rfl) rfl) rfl rfl rfl rfl ?_) | (refine c7 ?_;refine dC (BP (el rfl) rfl rfl rfl aI hlen2 (sz rfl)) rfl rfl rfl rfl ?_) | (refine aV ?_;refine SM rfl rfl (kY rfl) rfl rfl rfl (TS hi rfl) (sz rfl) (by show 4≤4;omega) rfl rfl ?_) | refine BT ?_ | (refine j5 ?_;refine TH (NE (el rfl) rfl (OF rfl (by first | omega | (split <;> omega)) (by simp only [List.length_map];split <;> omega)) aAK eS) rfl rfl rfl rfl rfl ?_) | refine D49 ?_) | refine GA ?_ | refine GG ?_ | ((with_reducible refine tO ?_);refine j7 Tryz.results20 rfl ?_) | refine GS ?_ | fail)
  have e:i=F.length:=by omega
  subst e
  rw [List.drop_length]
  refine cA.arr rfl ?_ (fun k e he=>?_)
  ·subst hF;simp [nS,jT,aO]
  ·subst hF
   unfold nS at he
   rw [List.take_length,show aO (List.map Fm.enc ([]:List Fm))=[] from rfl,List.append_nil] at he
   simp only [aO,List.getElem?_map] at he
   obtain ⟨r,hr,rfl⟩:=Option.map_eq_some_iff.1 he
   exact ⟨r,by rw [List.getElem?_map];simpa only [jT,List.getElem?_map] using hr,kO r⟩
theorem FB (fs:List Fm) (hs:∀ t ∈ fs,t.slots.length * 32≤140737488351232):bY Tryz.prog 20 [lv (fs.map Fm.enc)] (lv ((jT fs).map Fm.enc)):=aB.frozen (L3 fs hs) fun r s h=>h
structure WI (G:Prop):Prop where
 h:G
theorem tN {G:Prop} (k:WI G):G:=k.h
theorem qH {c:List Fc} {fs:List Fm} (h:decide ((fs.length:Int) < 1)=true∨decide ((fs.length:Int) > 24)=true∨decide ((aC fs 0).to≠-1)=true):d9 c fs=false:=by
 unfold d9
 rcases h with h | h | h
 ·have:(fs.length:Int)=0:=by have:=oT h;omega
  rw [decide_eq_true this];rfl
 ·rw [h];simp
 ·rw [h];simp
theorem t7 (c:List Fc) (hc:dR c) (fs:List Fm):bY Tryz.prog 26 [.agg [bC c],lv (fs.map Fm.enc)] (bv (d9 c fs)):=by
 refine aB.assume rfl fun hok _=>?_
 have hokf:=hok (lv (fs.map Fm.enc)) eS
 have hlen:=dK hokf
 simp only [List.length_map] at hlen
 have hlc:=dK (hok (.agg [bC c]) eS (.lst (c.map Fc.enc)) eS)
 simp only [List.length_map] at hlc
 refine of_body Tryz.func26 rfl rfl (nB rfl) ?_
 rw [Tryz.ntmps26]
 repeat' (first | ((with_reducible refine kw ?_);first | refine Wg ?_ | refine W0 ?_ | refine W1 ?_ | refine W2 ?_ | refine W3 ?_ | refine W6 ?_ | refine bJ ?_ | (refine fO ?_;first | refine cK (aF (el rfl) rfl rfl (by have:=(oF ‹decide ((aC fs (i:Int)).fn < 0)=false›);omega) (by have:=(oF ‹decide ((aC fs (i:Int)).fn≥(c.length:Int))=false›);omega) ⟨rfl,by decide⟩) rfl rfl ?_ | refine cK (aF (el rfl) rfl rfl (by have:=(oF ‹decide ((aC fs (i:Int)).pc < 0)=false›);omega) (by have:=(oF ‹decide ((aC fs (i:Int)).pc≥((aC c (aC fs (i:Int)).fn).code.length:Int))=false›);omega) ⟨rfl,by decide⟩) rfl rfl ?_ | refine cK (aF (el rfl) rfl rfl aI (oT ‹decide ((i:Int) < (fs.length:Int))=true›) ⟨rfl,by decide⟩) rfl rfl ?_ | refine cK (aF (el rfl) rfl rfl aI (oT ‹decide ((k:Int) < ((aC fs (i:Int)).slots.length:Int))=true›) ⟨rfl,by decide⟩) rfl rfl ?_ | refine cK (aF (el rfl) rfl rfl zC zC ⟨rfl,by decide⟩) rfl rfl ?_ | refine cK (aF (el rfl) rfl rfl cN (by have:=(oF ‹decide ((fs.length:Int) < 1)=false›);omega) ⟨rfl,by decide⟩) rfl rfl ?_) | (refine aE ?_;refine q8 ?_) | refine eT ?_ | refine gQ ?_ | refine iZ ?_ | refine gZ ?_ | refine cW ?_ | refine dH ?_) | refine GX ?_ | (refine bW (fun hb=>?_) (fun hb=>?_) <;> rw [hb]) | refine GN ?_ | refine GD ?_ | (refine kX (fun hb=>?_) (fun hb=>?_) <;> rw [hb]) | ((with_reducible refine kd ?_);first | refine D0 ?_ | refine D1 ?_ | refine D2 ?_ | refine D3 ?_ | refine D6 ?_ | (refine c7 ?_;first | refine dC (aF (el rfl) rfl rfl (by have:=(oF ‹decide ((aC fs (i:Int)).fn < 0)=false›);omega) (by have:=(oF ‹decide ((aC fs (i:Int)).fn≥(c.length:Int))=false›);omega) ⟨rfl,by decide⟩) rfl rfl rfl rfl ?_ | refine dC (aF (el rfl) rfl rfl (by have:=(oF ‹decide ((aC fs (i:Int)).pc < 0)=false›);omega) (by have:=(oF ‹decide ((aC fs (i:Int)).pc≥((aC c (aC fs (i:Int)).fn).code.length:Int))=false›);omega) ⟨rfl,by decide⟩) rfl rfl rfl rfl ?_ | refine dC (aF (el rfl) rfl rfl aI (oT ‹decide ((i:Int) < (fs.length:Int))=true›) ⟨rfl,by decide⟩) rfl rfl rfl rfl ?_ | refine dC (aF (el rfl) rfl rfl aI (oT ‹decide ((k:Int) < ((aC fs (i:Int)).slots.length:Int))=true›) ⟨rfl,by decide⟩) rfl rfl rfl rfl ?_ | refine dC (aF (el rfl) rfl rfl zC zC ⟨rfl,by decide⟩) rfl rfl rfl rfl ?_ | refine dC (aF (el rfl) rfl rfl cN (by have:=(oF ‹decide ((fs.length:Int) < 1)=false›);omega) ⟨rfl,by decide⟩) rfl rfl rfl rfl ?_) | (refine aV ?_;refine BW ?_) | refine uF ?_ | refine BT ?_ | refine pZ ?_) | refine GA ?_ | refine GG ?_ | (refine cJ (fun hb=>?_) (fun hb=>?_) <;> try rw [hb]) | ((with_reducible refine kf ?_);refine aP 0 Tryz.results26 rfl rfl rfl ?_) | refine GR ?_ | ((with_reducible refine kr ?_);refine aG rfl ?_) | fail)
 all_goals first
  | (refine dG ?_;show bv _=bv _;rw [qH (Or.inl ET)];done)
  | (refine dG ?_;show bv _=bv _;rw [qH (Or.inr (Or.inl ET))];done)
  | (refine dG ?_;show bv _=bv _;rw [qH (Or.inr (Or.inr ET))];done)
  | skip
 have h0:¬ (fs.length:Int)=0∧¬ (fs.length:Int) > 24∧(aC fs 0).to=-1:=⟨(by have:=(oF ‹decide ((fs.length:Int) < 1)=false›);omega),(oF ‹decide ((fs.length:Int) > 24)=false›),by have:=(oF ‹decide ((aC fs 0).to≠-1)=false›);exact Decidable.not_not.1 this⟩
 refine cF [1,2,5] rfl ?_
 refine fS 1 (n:=_) (fun n e σ=>∃ (i:Nat) (m:Int),n=fs.length - i∧(m=i∧i≤fs.length∧(∀ j,j < i→jN c fs j=false))∧e=[(1,_),(2,_),(5,iv m)]∧σ=_) rfl ⟨0,0,rfl,⟨rfl,Nat.zero_le _,fun j h=>by omega⟩,rfl,rfl⟩ ?_
 rintro n e σ ⟨i,m,rfl,⟨rfl,hi,hall⟩,rfl,rfl⟩
 have hn1:=h0.1
 have hn2:=h0.2.1
 repeat' (first | ((with_reducible refine kw ?_);first | refine Wg ?_ | refine W0 ?_ | refine W1 ?_ | refine W2 ?_ | refine W3 ?_ | refine W6 ?_ | refine bJ ?_ | (refine fO ?_;first | refine cK (aF (el rfl) rfl rfl (by have:=(oF ‹decide ((aC fs (i:Int)).fn < 0)=false›);omega) (by have:=(oF ‹decide ((aC fs (i:Int)).fn≥(c.length:Int))=false›);omega) ⟨rfl,by decide⟩) rfl rfl ?_ | refine cK (aF (el rfl) rfl rfl (by have:=(oF ‹decide ((aC fs (i:Int)).pc < 0)=false›);omega) (by have:=(oF ‹decide ((aC fs (i:Int)).pc≥((aC c (aC fs (i:Int)).fn).code.length:Int))=false›);omega) ⟨rfl,by decide⟩) rfl rfl ?_ | refine cK (aF (el rfl) rfl rfl aI (oT ‹decide ((i:Int) < (fs.length:Int))=true›) ⟨rfl,by decide⟩) rfl rfl ?_ | refine cK (aF (el rfl) rfl rfl aI (oT ‹decide ((k:Int) < ((aC fs (i:Int)).slots.length:Int))=true›) ⟨rfl,by decide⟩) rfl rfl ?_ | refine cK (aF (el rfl) rfl rfl zC zC ⟨rfl,by decide⟩) rfl rfl ?_ | refine cK (aF (el rfl) rfl rfl cN (by have:=(oF ‹decide ((fs.length:Int) < 1)=false›);omega) ⟨rfl,by decide⟩) rfl rfl ?_) | (refine aE ?_;refine q8 ?_) | refine eT ?_ | refine gQ ?_ | refine iZ ?_ | refine gZ ?_ | refine cW ?_ | refine dH ?_) | refine GX ?_ | (refine bW (fun hb=>?_) (fun hb=>?_) <;> rw [hb]) | refine GN ?_ | refine GD ?_ | (refine kX (fun hb=>?_) (fun hb=>?_) <;> rw [hb]) | ((with_reducible refine kd ?_);first | refine D0 ?_ | refine D1 ?_ | refine D2 ?_ | refine D3 ?_ | refine D6 ?_ | (refine c7 ?_;first | refine dC (aF (el rfl) rfl rfl (by have:=(oF ‹decide ((aC fs (i:Int)).fn < 0)=false›);omega) (by have:=(oF ‹decide ((aC fs (i:Int)).fn≥(c.length:Int))=false›);omega) ⟨rfl,by decide⟩) rfl rfl rfl rfl ?_ | refine dC (aF (el rfl) rfl rfl (by have:=(oF ‹decide ((aC fs (i:Int)).pc < 0)=false›);omega) (by have:=(oF ‹decide ((aC fs (i:Int)).pc≥((aC c (aC fs (i:Int)).fn).code.length:Int))=false›);omega) ⟨rfl,by decide⟩) rfl rfl rfl rfl ?_ | refine dC (aF (el rfl) rfl rfl aI (oT ‹decide ((i:Int) < (fs.length:Int))=true›) ⟨rfl,by decide⟩) rfl rfl rfl rfl ?_ | refine dC (aF (el rfl) rfl rfl aI (oT ‹decide ((k:Int) < ((aC fs (i:Int)).slots.length:Int))=true›) ⟨rfl,by decide⟩) rfl rfl rfl rfl ?_ | refine dC (aF (el rfl) rfl rfl zC zC ⟨rfl,by decide⟩) rfl rfl rfl rfl ?_ | refine dC (aF (el rfl) rfl rfl cN (by have:=(oF ‹decide ((fs.length:Int) < 1)=false›);omega) ⟨rfl,by decide⟩) rfl rfl rfl rfl ?_) | (refine aV ?_;refine BW ?_) | refine uF ?_ | refine BT ?_ | refine pZ ?_) | refine GA ?_ | refine GG ?_ | (refine cJ (fun hb=>?_) (fun hb=>?_) <;> try rw [hb]) | ((with_reducible refine kf ?_);refine aP 0 Tryz.results26 rfl rfl rfl ?_) | refine GR ?_ | ((with_reducible refine kr ?_);refine aG rfl ?_) | fail)
 all_goals first
  | (have hlt:=(oT ‹decide ((i:Int) < (fs.length:Int))=true›);have hB:jN c fs i=true:=(by simp only [jN,tK,uT,rF,aN,iA, *,b2,b3,b4,cond_true,cond_false,b5,b6,b7,b8,c1,c2,b9,c0]);exact dG (by show bv false=bv (d9 c fs);rw [rD h0 (i:=i) aI hB]))
  | (refine dG ?_;show bv _=bv _;rw [zM h0 (fun j hj=>hall j (by have:=oF ‹decide ((i:Int) < (fs.length:Int))=false›;omega))])
  | skip
 have hlt:=(oT ‹decide ((i:Int) < (fs.length:Int))=true›)
 have hsl:((aC fs (i:Int)).slots.length:Int)≤140737488355328:=by
  have h1:=(rG hokf).2 (Fm.enc (aC fs (i:Int))) (List.mem_map.2 ⟨_,by rw [bK aI];exact List.getElem_mem aI,rfl⟩)
  have h2:=dK (h1 (ld ((aC fs (i:Int)).slots.map Va.enc)) eS)
  simp only [List.length_map] at h2
  exact h2
 refine cF [1,2,5,6,7] rfl ?_
 refine fS 2 (n:=_) (fun n e σ=>∃ (k:Nat) (mk:Int),n=(aC fs (i:Int)).slots.length - k∧(mk=k∧k≤(aC fs (i:Int)).slots.length∧((aC fs (i:Int)).slots.take k).all bH=true)∧e=[(1,_),(2,_),(5,_),(6,_),(7,iv mk)]∧σ=_) rfl ⟨0,0,rfl,⟨rfl,Nat.zero_le _,rfl⟩,rfl,rfl⟩ ?_
 rintro n e σ ⟨k,mk,rfl,⟨rfl,hk,hva⟩,rfl,rfl⟩
 repeat' (first | ((with_reducible refine kw ?_);first | refine Wg ?_ | refine W0 ?_ | refine W1 ?_ | refine W2 ?_ | refine W3 ?_ | refine W6 ?_ | refine bJ ?_ | (refine aJ ?_;refine tD (iU (aC (aC fs (i:Int)).slots (k:Int)).k (aC (aC fs (i:Int)).slots (k:Int)).n (aC (aC fs (i:Int)).slots (k:Int)).s) ?_) | (refine fO ?_;first | refine cK (aF (el rfl) rfl rfl (by have:=(oF ‹decide ((aC fs (i:Int)).fn < 0)=false›);omega) (by have:=(oF ‹decide ((aC fs (i:Int)).fn≥(c.length:Int))=false›);omega) ⟨rfl,by decide⟩) rfl rfl ?_ | refine cK (aF (el rfl) rfl rfl (by have:=(oF ‹decide ((aC fs (i:Int)).pc < 0)=false›);omega) (by have:=(oF ‹decide ((aC fs (i:Int)).pc≥((aC c (aC fs (i:Int)).fn).code.length:Int))=false›);omega) ⟨rfl,by decide⟩) rfl rfl ?_ | refine cK (aF (el rfl) rfl rfl aI (oT ‹decide ((i:Int) < (fs.length:Int))=true›) ⟨rfl,by decide⟩) rfl rfl ?_ | refine cK (aF (el rfl) rfl rfl aI (oT ‹decide ((k:Int) < ((aC fs (i:Int)).slots.length:Int))=true›) ⟨rfl,by decide⟩) rfl rfl ?_ | refine cK (aF (el rfl) rfl rfl zC zC ⟨rfl,by decide⟩) rfl rfl ?_ | refine cK (aF (el rfl) rfl rfl cN (by have:=(oF ‹decide ((fs.length:Int) < 1)=false›);omega) ⟨rfl,by decide⟩) rfl rfl ?_) | (refine aE ?_;refine q8 ?_) | refine eT ?_ | refine gQ ?_ | refine iZ ?_ | refine gZ ?_ | refine cW ?_ | refine dH ?_) | refine GX ?_ | (refine bW (fun hb=>?_) (fun hb=>?_) <;> rw [hb]) | refine GN ?_ | refine GD ?_ | (refine kX (fun hb=>?_) (fun hb=>?_) <;> rw [hb]) | ((with_reducible refine kd ?_);first | refine D0 ?_ | refine D1 ?_ | refine D2 ?_ | refine D3 ?_ | refine D6 ?_ | (refine c7 ?_;first | refine dC (aF (el rfl) rfl rfl (by have:=(oF ‹decide ((aC fs (i:Int)).fn < 0)=false›);omega) (by have:=(oF ‹decide ((aC fs (i:Int)).fn≥(c.length:Int))=false›);omega) ⟨rfl,by decide⟩) rfl rfl rfl rfl ?_ | refine dC (aF (el rfl) rfl rfl (by have:=(oF ‹decide ((aC fs (i:Int)).pc < 0)=false›);omega) (by have:=(oF ‹decide ((aC fs (i:Int)).pc≥((aC c (aC fs (i:Int)).fn).code.length:Int))=false›);omega) ⟨rfl,by decide⟩) rfl rfl rfl rfl ?_ | refine dC (aF (el rfl) rfl rfl aI (oT ‹decide ((i:Int) < (fs.length:Int))=true›) ⟨rfl,by decide⟩) rfl rfl rfl rfl ?_ | refine dC (aF (el rfl) rfl rfl aI (oT ‹decide ((k:Int) < ((aC fs (i:Int)).slots.length:Int))=true›) ⟨rfl,by decide⟩) rfl rfl rfl rfl ?_ | refine dC (aF (el rfl) rfl rfl zC zC ⟨rfl,by decide⟩) rfl rfl rfl rfl ?_ | refine dC (aF (el rfl) rfl rfl cN (by have:=(oF ‹decide ((fs.length:Int) < 1)=false›);omega) ⟨rfl,by decide⟩) rfl rfl rfl rfl ?_) | (refine aV ?_;refine BW ?_) | refine uF ?_ | refine BT ?_ | refine pZ ?_) | ((with_reducible refine ka ?_);((with_reducible refine i5 14 ?_);refine tN ?_)) | refine GA ?_ | refine GG ?_ | (refine cJ (fun hb=>?_) (fun hb=>?_) <;> try rw [hb]) | ((with_reducible refine kf ?_);refine aP 0 Tryz.results26 rfl rfl rfl ?_) | refine GR ?_ | ((with_reducible refine kr ?_);refine aG rfl ?_) | fail)
 ·have hlk:=(oT ‹decide ((k:Int) < ((aC fs (i:Int)).slots.length:Int))=true›)
  have hv:bH (aC (aC fs (i:Int)).slots (k:Int))=false:=by simpa [bH] using ‹(!cQ (aC (aC fs (i:Int)).slots (k:Int)).k (aC (aC fs (i:Int)).slots (k:Int)).n (aC (aC fs (i:Int)).slots (k:Int)).s)=true›
  have hfm:tK c (aC fs (i:Int))=true:=by
   unfold tK
   rw [show ((aC fs (i:Int)).slots.any fun v=>!bH v)=true from B0 (i:=k) aI (by rw [hv];rfl)]
   simp only [b2,b3,b4,cond_true,cond_false,b5,b6,b7,b8,c1,c2,b9,c0]
  have hB:jN c fs i=true:=by unfold jN;rw [hfm];rfl
  exact dG (by show bv false=bv (d9 c fs);rw [rD h0 (i:=i) aI hB])
 ·have hlk:=(oT ‹decide ((k:Int) < ((aC fs (i:Int)).slots.length:Int))=true›)
  have hv:bH (aC (aC fs (i:Int)).slots (k:Int))=true:=by simpa [bH] using ‹(!cQ (aC (aC fs (i:Int)).slots (k:Int)).k (aC (aC fs (i:Int)).slots (k:Int)).n (aC (aC fs (i:Int)).slots (k:Int)).s)=false›
  refine ⟨_,_,?_,aW.pick_get _ [1,2,5,6,7],⟨rfl,rfl⟩,k + 1,_,rfl,⟨aL aI aI,by omega,p7 aI hva hv⟩,rfl,rfl⟩
  omega
 refine ⟨?_⟩
 have hgk:=oF ‹decide ((k:Int) < ((aC fs (i:Int)).slots.length:Int))=false›
 have F:jS c (aC fs (i:Int)):=⟨(by have:=(oF ‹decide ((aC fs (i:Int)).fn < 0)=false›);omega),(by have:=(oF ‹decide ((aC fs (i:Int)).fn≥(c.length:Int))=false›);omega),(by have:=(oF ‹decide ((aC fs (i:Int)).pc < 0)=false›);omega),(by have:=(oF ‹decide ((aC fs (i:Int)).pc≥((aC c (aC fs (i:Int)).fn).code.length:Int))=false›);omega),by have:=(oF ‹decide (((aC fs (i:Int)).slots.length:Int)≠(aC c (aC fs (i:Int)).fn).slots)=false›);omega,fun v hv=>List.all_eq_true.1 (GM aI hva) v hv⟩
 have hfm:tK c (aC fs (i:Int))=false:=uQ.2 F
 have hp4:(aC fs (i:Int)).pc < 4000:=by have:=F.p1;have:=(oB hc F).hd.n1;omega
 obtain ⟨x,hx2⟩:∃ x,aN c (aC fs (i:Int))=x:=⟨_,rfl⟩
 have hx3:aC (aC c (aC fs (i:Int)).fn).code (aC fs (i:Int)).pc=x:=hx2
 have hAF:x.op=10→oY c (aC fs (i:Int)) x:=fun h=>hx2 ▸ lB hc F (hx2 ▸ h)
 repeat' (first | ((with_reducible refine kw ?_);first | refine Wg ?_ | refine W0 ?_ | refine W1 ?_ | refine W2 ?_ | refine W3 ?_ | refine W6 ?_ | refine bJ ?_ | (refine aJ ?_;refine bB rfl rfl rfl rfl (bY.at (HF c (aC fs (i:Int)) (aC fs (i:Int)).pc.toNat (by have:=F.p0;omega) hp4 F.f0 F.f1 F.p0 F.p1 x hx2 (hAF (by have h:=(oF ‹decide (x.op≠10)=false›);exact Decidable.not_not.1 h))) rfl rfl ?_)) | (refine fO ?_;first | refine cK (aF (el rfl) rfl rfl zC zC ⟨rfl,by decide⟩) rfl rfl ?_ | refine cK (aF (el rfl) rfl rfl F.f0 F.f1 ⟨rfl,by decide⟩) rfl rfl ?_ | refine cK (aF (el rfl) rfl rfl F.p0 F.p1 ⟨rfl,by decide⟩) rfl rfl ?_) | (refine aE ?_;refine q8 ?_) | refine eT ?_ | refine gQ ?_ | refine iZ ?_ | refine gZ ?_ | refine cW ?_ | refine dH ?_) | refine GX ?_ | (refine bW (fun hb=>?_) (fun hb=>?_) <;> rw [hb]) | refine GN ?_ | refine GD ?_ | (refine kX (fun hb=>?_) (fun hb=>?_) <;> rw [hb]) | ((with_reducible refine kd ?_);first | refine D0 ?_ | refine D1 ?_ | refine D2 ?_ | refine D3 ?_ | refine D6 ?_ | (refine c7 ?_;first | refine dC (aF (el rfl) rfl rfl zC zC ⟨rfl,by decide⟩) rfl rfl rfl rfl ?_ | refine dC (aF (el rfl) rfl rfl F.f0 F.f1 ⟨rfl,by decide⟩) rfl rfl rfl rfl ?_ | refine dC (aF (el rfl) rfl rfl F.p0 F.p1 ⟨rfl,by decide⟩) rfl rfl rfl rfl ?_) | (refine aV ?_;refine BW ?_) | refine uF ?_ | refine BT ?_ | refine pZ ?_) | ((with_reducible refine ka ?_);((with_reducible refine i5 15 ?_);rw [hx3];refine fI ?_)) | refine GA ?_ | refine GG ?_ | (refine cJ (fun hb=>?_) (fun hb=>?_) <;> try rw [hb]) | ((with_reducible refine kf ?_);refine aP 0 Tryz.results26 rfl rfl rfl ?_) | refine GR ?_ | ((with_reducible refine kr ?_);refine aG rfl ?_) | fail)
 all_goals first
  | (have hlt:=(oT ‹decide ((i:Int) < (fs.length:Int))=true›);have hB:jN c fs i=true:=(by unfold jN uT rF;rw [hfm,hx2];simp only [iA, *,b2,b3,b4,cond_true,cond_false,b5,b6,b7,b8,c1,c2,b9,c0]);exact dG (by show bv false=bv (d9 c fs);rw [rD h0 (i:=i) aI hB]))
  | (have hlt:=(oT ‹decide ((i:Int) < (fs.length:Int))=true›);have hB:jN c fs i=false:=(by unfold jN uT rF;rw [hfm,hx2];simp only [iA, *,b2,b3,b4,cond_true,cond_false,b5,b6,b7,b8,c1,c2,b9,c0]);refine ⟨_,_,?_,aW.pick_get _ [1,2,5],⟨rfl,rfl⟩,i + 1,_,rfl,⟨aL aI aI,by omega,fun j hj=>by rcases Nat.lt_succ_iff_lt_or_eq.1 hj with h | rfl;exact hall j h;exact hB⟩,rfl,rfl⟩;omega)
  | skip
end Go.Ab
