import Derived.Test.YtdeikigmgdnojaaGreatDoorT31
/- A part of the proof of one law. -/
set_option maxRecDepth 100000
set_option maxHeartbeats 8000000
set_option linter.unusedVariables false
set_option linter.unusedSimpArgs false
namespace Go.Ab
open Go
section
variable {P:Program} {X:Nat→Prop} {ι:bZ} {σ:aA} {e:aW} {w:World} {J:aW→aA→Prop}
theorem B9 {k j:Nat} {ty:TypeId} {cells:List DV} {x y:DV} (hh:aQ P X ι σ w) (hk:σ.look k=some (.box ty cells)) (hj:cells[j]? = some x) (hxy:∀ u,aX ι w (bQ X ι σ) x u→aX ι w (bQ X ι σ) y u) :
  Comes' P X ι σ (σ.put k (some (.box ty (cells.set j y)))) w ι w:=by
 obtain ⟨v,hv,ho⟩:=hh.obj k _ hk
 have hB:∀ id o,(σ.put k (some (.box ty (cells.set j y)))).look id=some o→∃ o0,σ.look id=some o0∧∀ u b,kV o u b→kV o0 u b:=fun id o h=>by
  rw [aM hk] at h
  split at h
  ·rename_i e;subst e;cases h;exact ⟨_,hk,fun _ _ h=>h⟩
  ·exact ⟨o,h,fun _ _ h=>h⟩
 refine Comes'.regroup hh (fun _ _ h=>h) (fun id hid=>hh.fresh id (by rw [bV hk] at hid;exact hid)) (fun id o h=>?_) (fun b hb=>?_) (fun id id' o o' u u' b g1 g2 g3 g4 g5 g6=>?_)
 ·rw [aM hk] at h
  split at h
  ·rename_i e;subst e;cases h;exact .inr ⟨v,hv,ho.boxSet hj hxy⟩
  ·exact .inl h
 ·obtain ⟨id,o,u,g1,g2,g3⟩:=hb
  obtain ⟨o0,a1,a2⟩:=hB id o g1
  exact ⟨id,o0,u,a1,g2,a2 u b g3⟩
 ·obtain ⟨o0,a1,a2⟩:=hB id o g1
  obtain ⟨o1,c1,c2⟩:=hB id' o' g2
  exact hh.inj id id' o0 o1 u u' b a1 c1 g3 g4 (a2 u b g5) (c2 u' b g6)
theorem J9 (k j:Nat) {p:Nat} {ty el:TypeId} {cells:List DV} {es:List (List DV)} {ds:List (List aR)} (hk:σ.look k=some (.box ty cells)) (hj:cells[j]? = some (.arr p)) (hpl:σ.look p=some (.arr el es)) (hd:gM es=some ds)
  (h:J e ((σ.put p none).put k (some (.box ty (cells.set j (.d (.lst ds))))))):SC P e σ J:=by
 have hkp:k≠p:=by rintro rfl;rw [hk] at hpl;cases hpl
 have hk2:(σ.put p none).look k=some (.box ty cells):=by rw [aM hpl,if_neg hkp];exact hk
 exact kL (α:=Unit) (S:=fun _=>(σ.put p none).put k (some (.box ty (cells.set j (.d (.lst ds)))))) (E:=fun _=>e) (fun X ι w hh=>by
  have h1:=Comes'.freed hh (a7 hpl)
  have h5:=B9 h1.heap hk2 hj (fun u hr=>by
   cases hr with
   | arr _ _ hi _=>exact .d (FC hh hi hpl hd))
  exact ⟨(),ι,h1.trans h5,fun _ _=>rfl,iM (fun _ _ h=>h)⟩) (fun _=>Nat.le_trans (cX _ _ _) (cX _ _ _)) (fun _=>h)
end
section
variable {P:Program} {nt i:Nat} {K:aW→aA→Prop} {e:aW} {σ σ':aA} {ops:Array Oper} {seen:List Nat} {lt:List dQ} {rest:List (Nat × Oper)} {o:Oper} {d:DV} {R W:List Nat}
theorem OL (hw:aT ops o e=some true) (hd:o.dst=none) (h:aZ P o.op e σ σ.length=some (none,σ')) (hm:iF o.op=false) (hR:dA o.op e=R) (hW:bF o.op e σ.length=W) (hc:SO ops i lt (bN o) R W=true)
  (k:bO P nt ops K (i::seen) (⟨i,o.dst,o.looksAt ops,R,W⟩::lt) rest e σ'):bR P nt ops K seen lt ((i,o)::rest) e σ:=by
 subst hR hW
 refine ⟨⟨fun hx hp=>?_⟩⟩
 obtain ⟨h1,h2,h3⟩:=jL hp
 exact .none (hx (i,o) eS) h1 hw hd h hm (xF h2 hc) (k.h (fun p hp=>hx p (by simp [hp])) (h3 _ _))
theorem SM {t ty el:TypeId} {pos:String} {after:Array Edge} {gd:Option (Nat × Bool)} {a x:Operand} {id j sz off m:Nat} {es:List (List DV)} {c:List DV} (hw:aT ops ⟨none,.store t a x,ty,pos,after,gd⟩ e=some true) (hx:e.ev x=some d) (him:(P.info? t).map (·.size)=some m) (hc:(eO d && (aH d).length == m)=true) (ha:e.ev a=some (.eptr id j sz off)) (hl:σ.look id=some (.arr el es)) (hk:es[j]? = some c) (hsz:P.cellsOf el=sz)
  (hle:off + m≤c.length) (hs:σ.put id (some (.arr el (es.set j (c.take off++aH d++c.drop (off + m)))))=σ') (hok:SO ops i lt (bN ⟨none,.store t a x,ty,pos,after,gd⟩) [] [id]=true)
  (k:bO P nt ops K (i::seen) (⟨i,none,Oper.looksAt ops ⟨none,.store t a x,ty,pos,after,gd⟩,[],[id]⟩::lt) rest e σ'):bR P nt ops K seen lt ((i,⟨none,.store t a x,ty,pos,after,gd⟩)::rest) e σ:=by
 obtain ⟨inf,hi,hm⟩:=Option.map_eq_some_iff.1 him
 subst hm hs hsz
 exact OL hw rfl (by simp only [aZ,dW,hi,hx,hc,if_true,ha,hl,hk,hle,and_self,Option.map]) rfl rfl (by simp only [bF,ha,eQ]) hok k
end
theorem AK:∀ (y:List aR),jH (y.map DV.d)=some y
 | []=>rfl
 | a::y=>by simp [jH,AK y]
theorem sA:∀ (l:List (List aR)),gM (aO l)=some l
 | []=>rfl
 | x::l=>by
  have h:aO (x::l)=x.map DV.d::aO l:=rfl
  rw [h]
  simp [gM,AK,sA l]
end Go.Ab
namespace Go.Ab
open Go Go.Ab.Tryz Go.Proofs
theorem zG {k:Nat} (h:k * 32≤140737488351232):vB k 32=true:=by
 unfold vB gY
 simp only [c5,dT]
 omega
theorem J5 {l:List Fm} {i:Nat} (h:i < l.length):aO ((l.take i).map Fm.enc)++[[iv (aC l (i:Int)).fn,iv (aC l (i:Int)).pc,iv (aC l (i:Int)).to,lv ((aC l (i:Int)).slots.map Va.enc)]]=aO ((l.take (i + 1)).map Fm.enc):=by
 rw [gL h];simp [aO]
theorem J0 (l:List Fm) (hl:l.length≤1000) (hs:∀ t ∈ l,t.slots.length * 32≤140737488351232) :
  aB Tryz.prog 41 [lv (l.map Fm.enc)] [] (fun r s=>r = .arr 2∧s=[none,none,some (.arr 63 (aO (l.map Fm.enc)))]):=by
 refine fW Tryz.func41 rfl rfl (nB rfl) ?_
 rw [Tryz.ntmps41]
 repeat' (first | ((with_reducible refine kw ?_);first | refine W0 ?_ | refine W1 ?_ | refine W3 ?_ | refine W2 ?_ | refine W6 ?_ | refine bJ ?_ | refine wR ?_ | (refine aE ?_;refine q8 ?_) | refine gZ ?_ | refine dH ?_ | refine KS ?_ | (refine vQ ?_;first | refine cK (fY (el rfl) (sl rfl) rfl rfl rfl (ap rfl) (mM rfl rfl) (iI eS) (g7 (by simp [aO];omega) cN)) rfl rfl ?_ | refine cK (fY (el rfl) (sl rfl) rfl rfl rfl (ap rfl) rfl (iI eS) (zG (by have:=hs (aC l (i:Int)) (by rw [bK (by have:=(oT ‹decide ((i:Int) < (l.length:Int))=true›);omega)];exact List.getElem_mem _);simpa using this))) rfl rfl ?_)) | refine GA ?_ | refine GG ?_ | (refine cJ (fun hb=>?_) (fun hb=>?_) <;> try rw [hb]) | ((with_reducible refine tO ?_);refine j7 Tryz.results41 rfl ?_) | refine GS ?_ | fail)
 refine dB (kK 63 ?_)
 refine dB (DS 3 63 rfl ?_)
 refine dB (qR 3 (m:=0) (s:=[]) rfl rfl rfl rfl fun u=>?_)
 refine cF [0,3,4] rfl ?_
 refine jY 2 (n:=_) (fun n e σ=>∃ (i:Nat) (m:Int) (u:Value),n=l.length - i∧(m=i∧i≤l.length)∧e=[(0,_),(3,.d (.sc u)),(4,iv m)]∧σ=[some (bS Tryz.prog 63 [(u,(l.take i).map Fm.enc)]),none]) rfl ⟨0,0,u,rfl,⟨rfl,Nat.zero_le _⟩,rfl,rfl⟩ ?_
 rintro n e σ ⟨i,m,u,rfl,⟨rfl,hi⟩,rfl,rfl⟩
 refine dB (wK 3 (m:=0) rfl hP rfl ?_)
 repeat' (first | ((with_reducible refine kw ?_);first | refine W0 ?_ | refine W1 ?_ | refine W3 ?_ | refine W2 ?_ | refine W6 ?_ | refine bJ ?_ | refine wR ?_ | (refine aE ?_;refine q8 ?_) | refine gZ ?_ | refine dH ?_ | refine KS ?_ | (refine vQ ?_;first | refine cK (fY (el rfl) (sl rfl) rfl rfl rfl (ap rfl) (mM rfl rfl) (iI eS) (g7 (by simp [aO];omega) cN)) rfl rfl ?_ | refine cK (fY (el rfl) (sl rfl) rfl rfl rfl (ap rfl) rfl (iI eS) (zG (by have:=hs (aC l (i:Int)) (by rw [bK (by have:=(oT ‹decide ((i:Int) < (l.length:Int))=true›);omega)];exact List.getElem_mem _);simpa using this))) rfl rfl ?_)) | ((with_reducible refine ka ?_);first | ((with_reducible refine i5 9 ?_);refine dB (qP 0 rfl ?_);refine fI ?_) | ((with_reducible refine QE 8 ?_);refine dB (J9 3 3 rfl rfl rfl (sA _) ?_))) | refine GA ?_ | refine GG ?_ | (refine cJ (fun hb=>?_) (fun hb=>?_) <;> try rw [hb]) | ((with_reducible refine tO ?_);refine j7 Tryz.results41 rfl ?_) | refine GS ?_ | fail)
 all_goals first
  | (have hlt:=oT hb;refine gE (qR 3 (m:=0) (s:=(l.take (i + 1)).map Fm.enc) rfl rfl (J5 aI) rfl fun u2=>?_);refine gE (jM [0,3,4] rfl ?_);refine gU 2 rfl rfl rfl ?_;refine gT ⟨_,?_,i + 1,_,u2,rfl,⟨aL aI aI,by omega⟩,rfl,rfl⟩;omega)
  | (have hge:=oF hb;have e:i=l.length:=aI;subst e;rw [List.take_length];exact ⟨rfl,rfl⟩)
  | skip
def LJ (t:Fm):Fm:=⟨t.fn,t.pc,t.to,t.slots.take 300⟩
def jT (fs:List Fm):List Fm:=(fs.take 25).map LJ
theorem SP (fs:List Fm) (n:Nat) (hn:fs.take n=fs.take 25) (hs:∀ t ∈ fs,t.slots.length * 32≤140737488351232) :
  aB Tryz.prog 41 [.d (.lst (((fs.map Fm.enc).drop 0).take n))] [] (fun r s=>r = .arr 2∧s=[none,none,some (.arr 63 (aO ((fs.take 25).map Fm.enc)))]):=by
 rw [List.drop_zero,← List.map_take,hn]
 exact J0 _ KT (fun t ht=>hs t (List.mem_of_mem_take ht))
abbrev nS (F:List Fm) (i:Nat):List (List DV):=aO (((F.take i).map LJ).map Fm.enc)
theorem TS {F:List Fm} {i n:Nat} {x:List DV} {R:List (List DV)} (h:i≤F.length) (hn:n=i):(nS F i++(x::R))[n]? = some x:=by
 subst hn
 have hl:(nS F n).length=n:=by simp [nS,aO];omega
 rw [List.getElem?_append_right (by rw [hl];exact Nat.le_refl _),hl,Nat.sub_self];rfl
theorem L2 {F:List Fm} {i n:Nat} {x:List DV} {R:List (List DV)} (h:i≤F.length) (hn:n=i) (y:List DV):(nS F i++(x::R)).set n y=nS F i++(y::R):=by
 subst hn
 have hl:(nS F n).length=n:=by simp [nS,aO];omega
 rw [List.set_append_right _ _ (by rw [hl];exact Nat.le_refl _),hl,Nat.sub_self];rfl
theorem PZ {A R:List (List aR)}:eJ 3 [none,none,some (.arr 63 (aO A++aO R)),none]=true:=by
 have h:(aU.arr 63 (aO A++aO R)).under 3=true:=by
  have:aO A++aO R=aO (A++R):=by simp [aO]
  rw [this]
  simp only [aU.under,aO,List.all_map,List.all_eq_true]
  intro r _
  exact fB 3 r
 unfold eJ
 simp only [List.take,List.all_cons,h]
 rfl
theorem I6 {F:List Fm} {i:Nat} (h:i < F.length) (R:List (List DV)):nS F i++((LJ (aC F (i:Int))).enc.map DV.d::R)=nS F (i + 1)++R:=by
 unfold nS;rw [gL h];simp [aO]
theorem L3 (fs:List Fm) (hs:∀ t ∈ fs,t.slots.length * 32≤140737488351232) :
  aB Tryz.prog 20 [lv (fs.map Fm.enc)] [] (fun r s=>cA Tryz.prog s r (lv ((jT fs).map Fm.enc))):=by
 refine aB.assume rfl fun hok _=>?_
 have hlen:=dK (hok (lv (fs.map Fm.enc)) eS)
 simp only [List.length_map] at hlen
 refine fW Tryz.func20 rfl rfl (nB rfl) ?_
 rw [Tryz.ntmps20]
 repeat' (first | ((with_reducible refine kw ?_);first | refine W0 ?_ | refine W6 ?_ | refine bJ ?_ | (refine aJ ?_;refine bB rfl rfl rfl rfl (aB.ret (SP fs _ (by rw [List.take_eq_take_iff];split <;> omega) hs) ?_)) | refine gZ ?_ | refine W25 ?_ | (refine BS ?_;refine cK (NE (el rfl) rfl (OF rfl (by first | omega | (split <;> omega)) (by simp only [List.length_map];split <;> omega)) aAK eS) rfl rfl ?_) | refine W45 ?_) | refine GN ?_ | ((with_reducible refine kd ?_);first | refine D0 ?_ | refine D1 ?_ | (refine dI ?_;refine dC (mQ (ag rfl) rfl rfl (sz rfl) (TS hi rfl) rfl) rfl rfl rfl rfl ?_) | (refine c7 ?_;refine dC (BP (el rfl) rfl rfl rfl aI hlen2 (sz rfl)) rfl rfl rfl rfl ?_) | (refine aV ?_;refine SM rfl rfl (kY rfl) rfl rfl rfl (TS hi rfl) (sz rfl) (by show 4≤4;omega) rfl rfl ?_) | refine BT ?_ | (refine j5 ?_;refine TH (NE (el rfl) rfl (OF rfl (by first | omega | (split <;> omega)) (by simp only [List.length_map];split <;> omega)) aAK eS) rfl rfl rfl rfl rfl ?_) | refine D49 ?_) | refine GA ?_ | refine GG ?_ | ((with_reducible refine tO ?_);refine j7 Tryz.results20 rfl ?_) | refine GS ?_ | fail)
 generalize hF:fs.take 25=F
 have hFl:F.length≤25:=by rw [← hF];simp;omega
 refine cF [3,4] rfl ?_
 refine fS 3 (n:=_) (fun n e σ=>∃ (i:Nat) (m:Int),n=F.length - i∧(m=i∧i≤F.length)∧e=[(3,_),(4,iv m)]∧σ=[none,none,some (.arr 63 (nS F i++aO ((F.drop i).map Fm.enc)))]) rfl ⟨0,0,rfl,⟨rfl,Nat.zero_le _⟩,rfl,rfl⟩ ?_
 rintro n e σ ⟨i,m,rfl,⟨rfl,hi⟩,rfl,rfl⟩
 have hll:((nS F i++aO ((F.drop i).map Fm.enc)).length:Int)=F.length:=by simp [nS,aO];omega
 by_cases hlt:i < F.length
 ·have hb:decide ((i:Int) < ((nS F i++aO ((F.drop i).map Fm.enc)).length:Int))=true:=decide_eq_true (by rw [hll];omega)
  have hd:F.drop i=aC F (i:Int)::F.drop (i + 1):=by rw [bK hlt];exact List.drop_eq_getElem_cons hlt
  have hlen2:(i:Int) < ((nS F i++aO ((F.drop i).map Fm.enc)).length:Int):=by rw [hll];omega
  have hls:(aC F (i:Int)).slots.length≤9223372036854775807:=by
   have:=hs (aC F (i:Int)) (by rw [bK hlt];exact List.mem_of_mem_take (by rw [hF];exact List.getElem_mem _))
   omega
  rw [hd] at hb hlen2 ⊢
  repeat' (first | ((with_reducible refine kw ?_);first | refine W0 ?_ | refine W6 ?_ | refine bJ ?_ | refine gZ ?_ | refine W25 ?_ | (refine BS ?_;refine cK (NE (el rfl) rfl (OF rfl (by first | omega | (split <;> omega)) (by simp only [List.length_map];split <;> omega)) aAK eS) rfl rfl ?_) | refine W45 ?_) | refine GN ?_ | ((with_reducible refine kd ?_);first | refine D0 ?_ | refine D1 ?_ | (refine dI ?_;refine dC (mQ (ag rfl) rfl rfl (sz rfl) (TS hi rfl) rfl) rfl rfl rfl rfl ?_) | (refine c7 ?_;refine dC (BP (el rfl) rfl rfl rfl aI hlen2 (sz rfl)) rfl rfl rfl rfl ?_) | (refine aV ?_;refine SM rfl rfl (kY rfl) rfl rfl rfl (TS hi rfl) (sz rfl) (by show 4≤4;omega) rfl rfl ?_) | refine BT ?_ | (refine j5 ?_;refine TH (NE (el rfl) rfl (OF rfl (by first | omega | (split <;> omega)) (by simp only [List.length_map];split <;> omega)) aAK eS) rfl rfl rfl rfl rfl ?_) | refine D49 ?_) | refine GA ?_ | refine GG ?_ | ((with_reducible refine tO ?_);refine j7 Tryz.results20 rfl ?_) | refine GS ?_ | fail)
  have e:∀ n:Nat,(aC F (i:Int)).slots.take n=(aC F (i:Int)).slots.take 300→(nS F i++aO ((aC F (i:Int)::F.drop (i + 1)).map Fm.enc)).set (i:Int).toNat [iv (aC F (i:Int)).fn,iv (aC F (i:Int)).pc,iv (aC F (i:Int)).to,.d (.lst ((List.drop 0 ((aC F (i:Int)).slots.map Va.enc)).take n))]=nS F (i + 1)++aO ((F.drop (i + 1)).map Fm.enc):=fun n hn=>by
   rw [List.drop_zero,← List.map_take,hn]
   rw [← I6 hlt]
   exact L2 hi rfl _
  have e2:=e ((if 300 < ((aC F (i:Int)).slots.length:Int) then 300 else ((aC F (i:Int)).slots.length:Int)).toNat - 0) (by rw [List.take_eq_take_iff];split <;> omega)
  refine ⟨_,_,?_,aW.pick_get _ [3,4],⟨rfl,?_⟩,i + 1,_,rfl,⟨aL aI aI,by omega⟩,rfl,?_⟩
  ·omega
  ·have hU:=@PZ (((F.take (i + 1)).map LJ).map Fm.enc) ((F.drop (i + 1)).map Fm.enc)
   rw [show aO (((F.take (i + 1)).map LJ).map Fm.enc)=nS F (i + 1) from rfl,← e2] at hU
   exact hU
  ·rw [← e2];rfl
 ·have hb:decide ((i:Int) < ((nS F i++aO ((F.drop i).map Fm.enc)).length:Int))=false:=decide_eq_false (by rw [hll];omega)
  repeat' (first | ((with_reducible refine kw ?_);first | refine W0 ?_ | refine W6 ?_ | refine bJ ?_ | refine gZ ?_ | refine W25 ?_ | (refine BS ?_;refine cK (NE (el rfl) rfl (OF rfl (by first | omega | (split <;> omega)) (by simp only [List.length_map];split <;> omega)) aAK eS) rfl rfl ?_) | refine W45 ?_) | refine GN ?_ | ((with_reducible refine kd ?_);first | refine D0 ?_ | refine D1 ?_ | (refine dI ?_;refine dC (mQ (ag rfl) rfl rfl (sz rfl) (TS hi rfl) rfl) rfl rfl rfl rfl ?_) | (refine c7 ?_;refine dC (BP (el rfl) rfl rfl rfl aI hlen2 (sz rfl)) rfl rfl rfl rfl ?_) | (refine aV ?_;refine SM rfl rfl (kY rfl) rfl rfl rfl (TS hi rfl) (sz rfl) (by show 4≤4;omega) rfl rfl ?_) | refine BT ?_ | (refine j5 ?_;refine TH (NE (el rfl) rfl (OF rfl (by first | omega | (split <;> omega)) (by simp only [List.length_map];split <;> omega)) aAK eS) rfl rfl rfl rfl rfl ?_) | refine D49 ?_) | refine GA ?_ | refine GG ?_ | ((with_reducible refine tO ?_);refine j7 Tryz.results20 rfl ?_) | refine GS ?_ | fail)
  have e:i=F.length:=by omega
  subst e
  rw [List.drop_length]
  refine cA.arr rfl ?_ (fun k e he=>?_)
  ·subst hF;simp [nS,jT,aO]
  ·subst hF
   unfold nS at he
   rw [List.take_length,show aO (List.map Fm.enc ([]:List Fm))=[] from rfl,List.append_nil] at he
   simp only [aO,List.getElem?_map] at he
   obtain ⟨r,hr,rfl⟩:=Option.map_eq_some_iff.1 he
   exact ⟨r,by rw [List.getElem?_map];simpa only [jT,List.getElem?_map] using hr,kO r⟩
theorem FB (fs:List Fm) (hs:∀ t ∈ fs,t.slots.length * 32≤140737488351232):bY Tryz.prog 20 [lv (fs.map Fm.enc)] (lv ((jT fs).map Fm.enc)):=aB.frozen (L3 fs hs) fun r s h=>h
structure WI (G:Prop):Prop where
 h:G
theorem tN {G:Prop} (k:WI G):G:=k.h
end Go.Ab
