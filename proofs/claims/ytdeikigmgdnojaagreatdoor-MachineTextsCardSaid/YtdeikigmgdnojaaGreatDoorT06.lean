import Derived.Test.YtdeikigmgdnojaaGreatDoorT05
/- A part of the proof of one law. -/
set_option maxRecDepth 100000
set_option maxHeartbeats 8000000
set_option linter.unusedVariables false
set_option linter.unusedSimpArgs false
namespace Go.Ab
abbrev N2:=Nat × Option Nat × List Nat
def dQ.strip (a:dQ):N2:=(a.ix,a.dst,a.reads)
def zI (a b:N2):Bool:=tT a.2.1 b.2.2 || tT b.2.1 a.2.2 || wH a.2.1 b.2.1
def qL (ops:Array Oper):List Nat→List N2→List (Nat × Oper)→Bool
 | _,_,[]=>true
 | seen,lt,(i,o)::rest=>jE seen o i && lt.all (fun a=>!zI a (i,o.dst,o.looksAt ops) || fV (bN o) a.1) && qL ops (i::seen) ((i,o.dst,o.looksAt ops)::lt) rest
theorem xZ {ops:Array Oper}:∀ (l:List (Nat × Oper)) (seen:List Nat) (lt lt':List N2),(∀ a ∈ lt',a ∈ lt)→qL ops seen lt l=true→qL ops seen lt' l=true
 | [],_,_,_,_,_=>rfl
 | (i,o)::rest,seen,lt,lt',h,hp=>by
  simp only [qL,Bool.and_eq_true,List.all_eq_true] at hp ⊢
  refine ⟨⟨hp.1.1,fun a ha=>hp.1.2 a (h a ha)⟩,xZ rest _ _ _ (fun a ha=>?_) hp.2⟩
  rcases List.mem_cons.1 ha with rfl | ha
  ·simp
  ·exact List.mem_cons_of_mem _ (h a ha)
structure bO (P:Program) (nt:Nat) (ops:Array Oper) (K:aW→aA→Prop) (seen:List Nat) (lt:List dQ) (l:List (Nat × Oper)) (e:aW) (σ:aA):Prop where
 h:(∀ p ∈ l,ops[p.1]? = some p.2)→qL ops seen (lt.map dQ.strip) l=true→oZ P nt ops K seen lt (l.map (·.1)) e σ
structure bR (P:Program) (nt:Nat) (ops:Array Oper) (K:aW→aA→Prop) (seen:List Nat) (lt:List dQ) (l:List (Nat × Oper)) (e:aW) (σ:aA):Prop where
 h:bO P nt ops K seen lt l e σ
def yU (lt:List dQ) (ps R W:List Nat):Bool:=lt.all fun a=>!(a.W.any (fun id=>fV R id || fV W id) || W.any (fun id=>fV a.R id)) || fV ps a.ix
section
variable {P:Program} {nt:Nat} {K:aW→aA→Prop} {e:aW} {σ σ' σ'':aA} {ops:Array Oper} {seen:List Nat} {lt:List dQ} {rest:List (Nat × Oper)} {i:Nat} {o:Oper} {d:DV} {R W:List Nat}
theorem HC {ps:List Nat}:yU lt ps [] []=true:=by
 unfold yU
 rw [List.all_eq_true]
 intro a _
 simp [fV]
def SO (ops:Array Oper) (i:Nat) (lt:List dQ) (ps R W:List Nat):Bool:=lt.all fun a=>!(a.W.any (fun id=>fV R id || fV W id) || W.any (fun id=>fV a.R id)) || (fV ps a.ix || yV ops 4 i a.ix)
theorem xF (h1:∀ a ∈ lt,(!zI a.strip (i,o.dst,o.looksAt ops) || fV (bN o) a.ix)=true) (h2:SO ops i lt (bN o) R W=true):CW ops lt o ⟨i,o.dst,o.looksAt ops,R,W⟩=true:=by
 unfold CW
 rw [List.all_eq_true]
 intro a ha
 have g1:=h1 a ha
 have g2:=List.all_eq_true.1 h2 a ha
 unfold zI dQ.strip at g1
 unfold dQ.confS dQ.confO
 revert g1 g2
 cases fV (bN o) a.ix
 ·simp only [Bool.or_false,Bool.not_eq_true',Bool.false_or]
  intro g1 g2
  rw [g1]
  simpa using g2
 ·simp
theorem wE (h1:∀ a ∈ lt,(!zI a.strip (i,o.dst,o.looksAt ops) || fV (bN o) a.ix)=true) (h2:yU lt (bN o) R W=true):CW ops lt o ⟨i,o.dst,o.looksAt ops,R,W⟩=true:=by
 refine xF h1 ?_
 unfold SO
 rw [List.all_eq_true]
 intro a ha
 have g2:=List.all_eq_true.1 h2 a ha
 rw [Bool.or_eq_true] at g2 ⊢
 exact g2.imp (fun h=>h) (fun h=>by rw [h];rfl)
theorem TI (k:K e σ):bO P nt ops K seen lt [] e σ:=⟨fun _ _ => .nil k⟩
theorem jL (hp:qL ops seen (lt.map dQ.strip) ((i,o)::rest)=true):jE seen o i=true∧(∀ a ∈ lt,(!zI a.strip (i,o.dst,o.looksAt ops) || fV (bN o) a.ix)=true)∧∀ R W,qL ops (i::seen) ((⟨i,o.dst,o.looksAt ops,R,W⟩::lt:List dQ).map dQ.strip) rest=true:=by
 simp only [qL,Bool.and_eq_true,List.all_eq_true] at hp
 exact ⟨hp.1.1,fun a ha=>hp.1.2 a.strip (List.mem_map.2 ⟨a,ha,rfl⟩),fun _ _=>hp.2⟩
theorem V3 (h:Ev P o.op e σ σ.length d σ') (hw:aT ops o e=some true) (hR:dA o.op e=R) (hW:bF o.op e σ.length=W) (hc:yU lt (bN o) R W=true) (hs:(if iF o.op then mH (σ.length + 1) σ' else σ')=σ'')
  (k:bO P nt ops K (i::seen) (⟨i,o.dst,o.looksAt ops,R,W⟩::lt) rest (e.put o.dst d) σ''):bR P nt ops K seen lt ((i,o)::rest) e σ:=by
 subst hR hW hs
 refine ⟨⟨fun hx hp=>?_⟩⟩
 obtain ⟨h1,h2,h3⟩:=jL hp
 exact .op (hx (i,o) (by simp)) h1 hw h.h (wE h2 hc) (k.h (fun p hp=>hx p (by simp [hp])) (h3 _ _))
theorem W5 (h:Ev P o.op e σ σ.length d σ') (hw:aT ops o e=some true) (hR:dA o.op e=R) (hW:bF o.op e σ.length=W) (hc:SO ops i lt (bN o) R W=true) (hs:(if iF o.op then mH (σ.length + 1) σ' else σ')=σ'')
  (k:bO P nt ops K (i::seen) (⟨i,o.dst,o.looksAt ops,R,W⟩::lt) rest (e.put o.dst d) σ''):bR P nt ops K seen lt ((i,o)::rest) e σ:=by
 subst hR hW hs
 refine ⟨⟨fun hx hp=>?_⟩⟩
 obtain ⟨h1,h2,h3⟩:=jL hp
 exact .op (hx (i,o) (by simp)) h1 hw h.h (xF h2 hc) (k.h (fun p hp=>hx p (by simp [hp])) (h3 _ _))
theorem IX (h:Ev P o.op e σ σ.length d σ) (hw:aT ops o e=some true) (hR:dA o.op e=[]) (hW:bF o.op e σ.length=[])
  (k:bO P nt ops K (i::seen) (⟨i,o.dst,o.looksAt ops,[],[]⟩::lt) rest (e.put o.dst d) σ):bR P nt ops K seen lt ((i,o)::rest) e σ :=
 V3 h hw hR hW HC (by rw [sI hW];rfl) k
theorem LQ (hw:aT ops o e=some true) (hd:o.dst=none) (h:aZ P o.op e σ σ.length=some (none,σ')) (hm:iF o.op=false) (hR:dA o.op e=R) (hW:bF o.op e σ.length=W) (hc:yU lt (bN o) R W=true)
  (k:bO P nt ops K (i::seen) (⟨i,o.dst,o.looksAt ops,R,W⟩::lt) rest e σ'):bR P nt ops K seen lt ((i,o)::rest) e σ:=by
 subst hR hW
 refine ⟨⟨fun hx hp=>?_⟩⟩
 obtain ⟨h1,h2,h3⟩:=jL hp
 exact .none (hx (i,o) (by simp)) h1 hw hd h hm (wE h2 hc) (k.h (fun p hp=>hx p (by simp [hp])) (h3 _ _))
theorem E5 (hw:aT ops o e=some false) (k:bO P nt ops K (i::seen) (⟨i,o.dst,o.looksAt ops,[],[]⟩::lt) rest (e.del o.dst) σ):bO P nt ops K seen lt ((i,o)::rest) e σ:=by
 refine ⟨fun hx hp=>?_⟩
 obtain ⟨h1,h2,h3⟩:=jL hp
 exact .skip (hx (i,o) (by simp)) h1 hw (wE h2 HC) (k.h (fun p hp=>hx p (by simp [hp])) (h3 _ _))
theorem gV {t ty ty':TypeId} {pos:String} {after:Array Edge} {gd:Option (Nat × Bool)} {a x:Operand} {id off m:Nat} {cells new:List DV} (hw:aT ops ⟨none,.store t a x,ty,pos,after,gd⟩ e=some true) (hx:e.ev x=some d) (him:(P.info? t).map (·.size)=some m) (hc:(eO d && (aH d).length == m)=true) (ha:e.ev a=some (.ptr id off)) (hl:σ.look id=some (.box ty' cells)) (hle:Nat.ble (off + m) cells.length=true)
  (hn:cells.take off++aH d++cells.drop (off + m)=new) (hs:σ.put id (some (.box ty' new))=σ') (hok:yU lt (bN ⟨none,.store t a x,ty,pos,after,gd⟩) [] [id]=true)
  (k:bO P nt ops K (i::seen) (⟨i,none,Oper.looksAt ops ⟨none,.store t a x,ty,pos,after,gd⟩,[],[id]⟩::lt) rest e σ'):bR P nt ops K seen lt ((i,⟨none,.store t a x,ty,pos,after,gd⟩)::rest) e σ:=by
 obtain ⟨inf,hi,hm⟩:=Option.map_eq_some_iff.1 him
 subst hm hn hs
 exact LQ hw rfl (by simp only [aZ,dW,hi,hx,hc,if_true,ha,hl,Nat.le_of_ble_eq_true hle,Option.map]) rfl rfl (by simp only [bF,ha,eQ]) hok k
theorem mX {t ty el:TypeId} {pos:String} {after:Array Edge} {gd:Option (Nat × Bool)} {a x:Operand} {id j sz off m:Nat} {es:List (List DV)} {c:List DV} (hw:aT ops ⟨none,.store t a x,ty,pos,after,gd⟩ e=some true) (hx:e.ev x=some d) (him:(P.info? t).map (·.size)=some m) (hc:(eO d && (aH d).length == m)=true) (ha:e.ev a=some (.eptr id j sz off)) (hl:σ.look id=some (.arr el es)) (hk:es[j]? = some c) (hsz:P.cellsOf el=sz)
  (hle:off + m≤c.length) (hs:σ.put id (some (.arr el (es.set j (c.take off++aH d++c.drop (off + m)))))=σ') (hok:yU lt (bN ⟨none,.store t a x,ty,pos,after,gd⟩) [] [id]=true)
  (k:bO P nt ops K (i::seen) (⟨i,none,Oper.looksAt ops ⟨none,.store t a x,ty,pos,after,gd⟩,[],[id]⟩::lt) rest e σ'):bR P nt ops K seen lt ((i,⟨none,.store t a x,ty,pos,after,gd⟩)::rest) e σ:=by
 obtain ⟨inf,hi,hm⟩:=Option.map_eq_some_iff.1 him
 subst hm hs hsz
 exact LQ hw rfl (by simp only [aZ,dW,hi,hx,hc,if_true,ha,hl,hk,hle,and_self,Option.map]) rfl rfl (by simp only [bF,ha,eQ]) hok k
theorem zY {g:FuncId} {xs ys:List DV} {Rr:DV→aA→Prop} (hy:DV.norms xs=ys) (k:aB P g ys σ Rr):aB P g xs σ Rr:=by
 subst hy
 refine ⟨k.body,fun X ι w vs h1 h2=>k.run X ι w vs h1 ⟨by rw [kD];exact h2.len,fun i x y hx hy=>?_⟩⟩
 rw [oI] at hx
 obtain ⟨z,hc,rfl⟩:=Option.map_eq_some_iff.1 hx
 exact (h2.get i z y hc hy).normed
theorem eM {dst:Option Nat} {ty:TypeId} {pos:String} {after:Array Edge} {gd:Option (Nat × Bool)} {f:Operand} {args:Array Operand} {ts:Array TypeId} {g:FuncId} {first cap xs ys:List DV} {x:DV} (R:List Nat) (hw:aT ops ⟨dst,.call { callee := .value f,args,argTypes:=ts },ty,pos,after,gd⟩ e=some true)
  (hf:e.ev f=some (.fn (.func g) first cap)) (hx:args.toList.mapM e.ev=some xs) (hy:DV.norms (first++xs++cap)=ys) (hc:∀ σ2:aA,(∀ id ∈ R,σ2.look id=σ.look id)→aB P g ys σ2 fun r σ'=>r=x∧σ'=σ2)
  (hok:yU lt (bN ⟨dst,.call { callee := .value f,args,argTypes:=ts },ty,pos,after,gd⟩) R []=true)
  (k:bO P nt ops K (i::seen) (⟨i,dst,Oper.looksAt ops ⟨dst,.call { callee := .value f,args,argTypes:=ts },ty,pos,after,gd⟩,R,[]⟩::lt) rest (e.put dst x) σ):bR P nt ops K seen lt ((i,⟨dst,.call { callee := .value f,args,argTypes:=ts },ty,pos,after,gd⟩)::rest) e σ:=by
 refine ⟨⟨fun hix hp=>?_⟩⟩
 obtain ⟨h1,h2,h3⟩:=jL hp
 exact .call R (hix _ (by simp)) h1 hw rfl hf hx (fun σ2 h=>zY hy (hc σ2 h)) (wE h2 hok) (k.h (fun p hp=>hix p (by simp [hp])) (h3 _ _))
def PC (lt:List dQ) (ps:List Nat):Bool:=lt.all fun a=>a.W.isEmpty || fV ps a.ix
theorem LN {dst:Option Nat} {ty:TypeId} {pos:String} {after:Array Edge} {gd:Option (Nat × Bool)} {f:Operand} {args:Array Operand} {ts:Array TypeId} {g:FuncId} {first cap xs ys:List DV} (Rr:DV→aA→Prop) (hw:aT ops ⟨dst,.call { callee := .value f,args,argTypes:=ts },ty,pos,after,gd⟩ e=some true)
  (hf:e.ev f=some (.fn (.func g) first cap)) (hx:args.toList.mapM e.ev=some xs) (hy:DV.norms (first++xs++cap)=ys) (hok:PC lt (bN ⟨dst,.call { callee := .value f,args,argTypes:=ts },ty,pos,after,gd⟩)=true) (hl:j9 ops [i] (rest.map (·.1))=true) (hc:aB P g ys σ Rr)
  (hk:∀ r σ',Rr r σ'→∀ a ∈ lt,(fV (bN ⟨dst,.call { callee := .value f,args,argTypes:=ts },ty,pos,after,gd⟩) a.ix || yV ops 6 i a.ix)=false→∀ id ∈ a.R,σ'.look id=σ.look id)
  (k:∀ r σ',Rr r σ'→bO P nt ops K (i::seen) lt rest (e.put dst r) σ'):bR P nt ops K seen lt ((i,⟨dst,.call { callee := .value f,args,argTypes:=ts },ty,pos,after,gd⟩)::rest) e σ:=by
 refine ⟨⟨fun hix hp=>?_⟩⟩
 obtain ⟨h1,h2,h3⟩:=jL hp
 refine .eff Rr (hix _ (by simp)) h1 hw rfl hf hx (zY hy hc) ?_ hl hk (fun r σ' hr=>(k r σ' hr).h (fun p hp=>hix p (by simp [hp])) (xZ _ _ _ _ (fun a ha=>List.mem_cons_of_mem _ ha) (h3 [] [])))
 unfold L4
 rw [List.all_eq_true]
 intro a ha
 have g1:=h2 a ha
 have g2:=List.all_eq_true.1 hok a ha
 unfold zI dQ.strip at g1
 unfold dQ.confS
 revert g1 g2
 cases fV (bN ⟨dst,.call { callee := .value f,args,argTypes:=ts },ty,pos,after,gd⟩) a.ix
 ·simp only [Bool.or_false,Bool.not_eq_true']
  intro g1 g2
  rw [g1,g2];rfl
 ·simp
theorem GW {dst:Option Nat} {ty:TypeId} {pos:String} {after:Array Edge} {gd:Option (Nat × Bool)} {f:Operand} {args:Array Operand} {ts:Array TypeId} {g:FuncId} {first cap xs ys:List DV} (Rr:DV→aA→Prop) (hw:aT ops ⟨dst,.call { callee := .value f,args,argTypes:=ts },ty,pos,after,gd⟩ e=some true)
  (hf:e.ev f=some (.fn (.func g) first cap)) (hx:args.toList.mapM e.ev=some xs) (hy:DV.norms (first++xs++cap)=ys) (hok:PC lt (bN ⟨dst,.call { callee := .value f,args,argTypes:=ts },ty,pos,after,gd⟩)=true) (hl:j9 ops [i] (rest.map (·.1))=true) (hc:aB P g ys σ Rr)
  (hk:∀ r σ',Rr r σ'→∀ a ∈ lt,fV (bN ⟨dst,.call { callee := .value f,args,argTypes:=ts },ty,pos,after,gd⟩) a.ix=false→∀ id ∈ a.R,σ'.look id=σ.look id)
  (k:∀ r σ',Rr r σ'→bO P nt ops K (i::seen) lt rest (e.put dst r) σ'):bR P nt ops K seen lt ((i,⟨dst,.call { callee := .value f,args,argTypes:=ts },ty,pos,after,gd⟩)::rest) e σ :=
 LN Rr hw hf hx hy hok hl hc (fun r σ' hr a ha h=>hk r σ' hr a ha (Bool.or_eq_false_iff.1 h).1) k
def lD:Nat→List Oper→List (Nat × Oper)
 | _,[]=>[]
 | n,o::os=>(n,o)::lD (n + 1) os
theorem xX:∀ (l:List Oper) (n:Nat) (p:Nat × Oper),p ∈ lD n l→n≤p.1∧l[p.1 - n]? = some p.2
 | [],_,_,h=>by simp [lD] at h
 | o::os,n,p,h=>by
  rcases List.mem_cons.1 h with rfl | h
  ·simp
  ·obtain ⟨h1,h2⟩:=xX os (n + 1) p h
   refine ⟨by omega,?_⟩
   rw [show p.1 - n=(p.1 - (n + 1)) + 1 by omega]
   simpa using h2
theorem sL:∀ (l:List Oper) (n:Nat),(lD n l).map (·.1)=List.range' n l.length
 | [],_=>rfl
 | o::os,n=>by simp [lD,sL os (n + 1),List.range'_succ]
theorem zX:∀ {l:List Nat},l.Nodup→lC l=true
 | [],_=>rfl
 | x::xs,h=>by
  obtain ⟨h1,h2⟩:=List.nodup_cons.1 h
  simp only [lC,zX h2,Bool.and_true,Bool.not_eq_true']
  cases hh:fV xs x with
  | false=>rfl
  | true=>exact absurd (cZ.1 hh) h1
theorem OH {id:Nat} {l:List Oper} {Q:Exit→aW→aA→Prop} (hm:P.follows .mixedOrders=true) (hops:l.all (i0 nt)=true) (hp:qL l.toArray [] [] (lD 0 l)=true)
  (h:bO P nt l.toArray (Q .normal) [] [] (lD 0 l) e σ):bU P nt (.region id l.toArray true) e σ Q:=by
 refine bU.drawn ((lD 0 l).map (·.1)) hm (by simpa using hops) ?_ ?_ (h.h (fun p hp=>?_) hp)
 ·rw [sL,List.all_eq_true]
  intro x hx
  refine cZ.2 ?_
  simp at hx ⊢
  exact hx
 ·rw [sL];exact zX List.nodup_range'
 ·have:=(xX l 0 p hp).2
  simpa using this
end
def A9 (P:Program) (t:TypeId):Bool:=match P.underlying t with
 | some .bool=>true
 | _=>false
def BL:Value→Value→Bool
 | .int k n,.int k' n'=>decide (k=k') && decide (n=n')
 | .bool a,.bool b=>a == b
 | .string a,.string b=>a.data.isEmpty && b.data.isEmpty
 | .pointer none,.pointer none=>true
 | .map none,.map none=>true
 | .nilFunc,.nilFunc=>true
 | .nilIface,.nilIface=>true
 | _,_=>false
def wL:DV→DV→Bool
 | .d (.sc a),.d (.sc b)=>BL a b
 | .nils,.nils=>true
 | _,_=>false
def uA:List DV→List DV→Bool
 | [],[]=>true
 | a::as,b::bs=>wL a b && uA as bs
 | _,_=>false
def HO:Option DV→Option DV→Bool
 | some (.agg as),some (.agg bs)=>uA as bs
 | some a,some b=>wL a b
 | _,_=>false
theorem F2 {a b:Value} (h:BL a b=true):a=b:=by
 unfold BL at h
 split at h
 ·simp at h;obtain ⟨rfl,rfl⟩:=h;rfl
 ·simp at h;subst h;rfl
 ·rename_i a b
  simp at h
  cases a;cases b
  simp at h
  obtain ⟨rfl,rfl⟩:=h
  rfl
 all_goals first
  | rfl
  | cases h
theorem yH {a b:DV} (h:wL a b=true):a=b:=by
 unfold wL at h
 split at h
 ·rw [F2 h]
 ·rfl
 ·cases h
theorem vP:∀ {a b:List DV},uA a b=true→a=b
 | [],[],_=>rfl
 | a::as,b::bs,h=>by
  simp only [uA,Bool.and_eq_true] at h
  rw [yH h.1,vP h.2]
 | [],_::_,h=>by cases h
 | _::_,[],h=>by cases h
theorem M4 {a b:Option DV} (h:HO a b=true):a=b:=by
 unfold HO at h
 split at h
 ·rw [vP h]
 ·rw [yH h]
 ·cases h
def oK (P:Program) (t:TypeId):Option (List (Nat × Nat)) :=
 match P.underlying t with
 | some (.struct fs)=>fs.toList.mapM fun f=>(P.info? f.type).map fun j=>(f.offset,j.size)
 | _=>none
theorem y3 {P:Program} {t:TypeId} {l:List (Nat × Nat)} (h:oK P t=some l):qI P t=true∧iW P t=fun i=>l[i]?:=by
 unfold oK at h
 split at h
 ·rename_i fs hu
  obtain ⟨h1,h2⟩:=lZ h
  constructor
  ·unfold qI
   rw [hu]
   simp only
   rw [Array.all_eq_true_iff_forall_mem]
   intro f hf
   obtain ⟨i,hi,hfi⟩:=Array.mem_iff_getElem.1 hf
   have hl:fs.toList[i]? = some f:=by simp [hi,hfi]
   obtain ⟨y,_,this⟩:=h2 i f hl
   cases hinf:P.info? f.type with
   | none=>simp [hinf] at this
   | some j=>rfl
  ·funext i
   unfold iW
   rw [hu]
   simp only
   cases hf:fs[i]? with
   | none =>
    have:l.length≤i:=by
     rw [h1]
     simpa using hf
    rw [List.getElem?_eq_none this];rfl
   | some f =>
    have hl:fs.toList[i]? = some f:=by simpa using hf
    obtain ⟨y,hy,this⟩:=h2 i f hl
    rw [hy,← this];rfl
 ·cases h
def w7 (P:Program) (t:TypeId):Option (List (Nat × Nat)) :=
 match P.underlying t with
 | some (.struct fs) =>
  if P.stoodInHeld t || P.eqGuardType P.depth t then none else
  fs.toList.mapM fun f=>if f.name = "_" then none else match P.underlying f.type with
   | some .bool=>some (f.offset,0)
   | some (.int _)=>some (f.offset,1)
   | some .string=>some (f.offset,2)
   | _=>none
 | _=>none
def w6 (xs ys:List DV):List (Nat × Nat)→Option Bool
 | []=>some true
 | (o,k)::rest =>
  match k,xs[o]?,ys[o]?,w6 xs ys rest with
  | 0,some (.d (.sc (.bool a))),some (.d (.sc (.bool b))),some q=>some ((a == b) && q)
  | 1,some (.d (.sc (.int i a))),some (.d (.sc (.int j b))),some q=>if i=j then some (decide (a=b) && q) else none
  | 2,some (.d (.sc (.string a))),some (.d (.sc (.string b))),some q=>some (decide (a=b) && q)
  | _,_,_,_=>none
theorem mN {P:Program} {xs ys:List DV}:∀ (fs:List Field) (l:List (Nat × Nat)) (p:Bool),(fs.mapM fun f=>if f.name = "_" then none else match P.underlying f.type with
   | some .bool=>some (f.offset,0)
   | some (.int _)=>some (f.offset,1)
   | some .string=>some (f.offset,2)
   | _=>none)=some l→w6 xs ys l=some p→eqFields P xs ys fs=some p
 | [],l,p,h,hr=>by
  simp at h;subst h
  simpa [w6,eqFields] using hr
 | f::fs,l,p,h,hr=>by
  simp only [List.mapM_cons,Option.bind_eq_bind] at h
  obtain ⟨⟨o,k⟩,h1,h2⟩:=Option.bind_eq_some_iff.1 h
  obtain ⟨l',h3,h4⟩:=Option.bind_eq_some_iff.1 h2
  simp at h4;subst h4
  split at h1
  ·cases h1
  rename_i hn
  have ho:o=f.offset:=by split at h1 <;> cases h1 <;> rfl
  subst ho
  simp only [w6] at hr
  split at hr
  ·rename_i a b q hx hy hq
   cases hr
   have ih:=mN fs l' q h3 hq
   have hu:P.underlying f.type=some .bool:=by split at h1 <;> simp_all
   simp only [eqFields,hx,hy,hn,if_false,CN,hu,ih]
  ·rename_i i a j b q hx hy hq
   split at hr
   ·rename_i hij
    cases hr
    have ih:=mN fs l' q h3 hq
    have hu:∃ k,P.underlying f.type=some (.int k):=by split at h1 <;> simp_all
    obtain ⟨k,hu⟩:=hu
    simp only [eqFields,hx,hy,hn,if_false,CN,hu,ih,hij,if_true]
   ·cases hr
  ·rename_i a b q hx hy hq
   cases hr
   have ih:=mN fs l' q h3 hq
   have hu:P.underlying f.type=some .string:=by split at h1 <;> simp_all
   simp only [eqFields,hx,hy,hn,if_false,CN,hu,ih]
  ·cases hr
theorem LY {P:Program} {t:TypeId} {l:List (Nat × Nat)} {xs ys:List DV} {p:Bool} (h:w7 P t=some l) (hr:w6 xs ys l=some p):A3 P t (.agg xs) (.agg ys)=some p:=by
 unfold w7 at h
 split at h
 ·rename_i fs hu
  split at h
  ·cases h
  ·rename_i hb
   simp only [A3,hu,hb,Bool.false_eq_true,if_false]
   exact mN _ _ _ h hr
 ·cases h
section
variable {P:Program} {e:aW} {σ:aA} {n:Nat}
theorem NI {t:TypeId} {parts:Array (Nat × Operand)} {tab:List (Nat × Nat)} {zs cs:List DV} {vs:List (Nat × DV)} (hs:oK P t=some tab) (hz:iT P t=some (.agg zs)) (hp:parts.toList.mapM (fun p=>(e.ev p.2).bind fun v=>if pT v then some (p.1,v) else none)=some vs) (hf:rZ (fun i=>tab[i]?) zs vs=some cs) :
  Ev P (.build t parts) e σ n (.agg cs) σ:=by
 obtain ⟨h1,h2⟩:=y3 hs
 exact P0 h1 hz hp (h2 ▸ hf)
theorem NG {t yt:TypeId} {x y:Operand} {a b:List DV} {p:Bool} {l:List (Nat × Nat)} (h:w7 P t=some l) (hx:e.ev x=some (.agg a)) (hy:e.ev y=some (.agg b)) (hr:w6 a b l=some p):Ev P (.binOp .eql t x y yt) e σ n (.d (.sc (.bool p))) σ:=R4 hx hy (LY h hr)
theorem NK {t yt:TypeId} {x y:Operand} {a b:List DV} {p:Bool} {l:List (Nat × Nat)} (h:w7 P t=some l) (hx:e.ev x=some (.agg a)) (hy:e.ev y=some (.agg b)) (hr:w6 a b l=some p):Ev P (.binOp .neq t x y yt) e σ n (.d (.sc (.bool !p))) σ:=SB hx hy (LY h hr)
end
structure WS (P:Program) (nt:Nat) (ops:Array Oper) (rest:List Oper) (e:aW) (σ:aA) (K:aW→aA→Prop):Prop where
 h:eC P nt ops rest e σ K
structure AC (P:Program) (nt:Nat) (c:Code) (e:aW) (σ:aA) (Q:Exit→aW→aA→Prop):Prop where
 h:bU P nt c e σ Q
section
variable {P:Program} {nt:Nat} {Q:Exit→aW→aA→Prop} {e e':aW} {σ σ':aA} {ops:Array Oper} {dst:Option Nat} {ty:TypeId} {pos:String} {after:Array Edge} {rest:List Oper} {K N:aW→aA→Prop} {d d':DV} {n:Nat}
theorem cK {op:Op} (h:Ev P op e σ σ.length d σ') (hp:mO op=true) (hd:fQ nt dst=true) (k:WS P nt ops rest (e.put dst d) σ' K):WS P nt ops (⟨dst,op,ty,pos,after,none⟩::rest) e σ K:=⟨r_v h hp hd k.h⟩
theorem nO {t ty':TypeId} {a x:Operand} {id off m:Nat} {cells new:List DV} (hx:e.ev x=some d) (him:(P.info? t).map (·.size)=some m) (hc:(eO d && (aH d).length == m)=true) (ha:e.ev a=some (.ptr id off)) (hl:σ.look id=some (.box ty' cells)) (hle:Nat.ble (off + m) cells.length=true)
  (hn:cells.take off++aH d++cells.drop (off + m)=new) (hs:σ.put id (some (.box ty' new))=σ') (k:WS P nt ops rest e σ' K):WS P nt ops (⟨none,.store t a x,ty,pos,after,none⟩::rest) e σ K:=⟨PN hx him hc ha hl hle hn hs k.h⟩
theorem nC {t el:TypeId} {a x:Operand} {id i sz off m:Nat} {es:List (List DV)} {c:List DV} (hx:e.ev x=some d) (him:(P.info? t).map (·.size)=some m) (hc:(eO d && (aH d).length == m)=true) (ha:e.ev a=some (.eptr id i sz off)) (hl:σ.look id=some (.arr el es)) (hk:es[i]? = some c) (hsz:P.cellsOf el=sz)
  (hle:off + m≤c.length) (hs:σ.put id (some (.arr el (es.set i (c.take off++aH d++c.drop (off + m)))))=σ') (k:WS P nt ops rest e σ' K):WS P nt ops (⟨none,.store t a x,ty,pos,after,none⟩::rest) e σ K:=⟨MU hx him hc ha hl hk hsz hle hs k.h⟩
theorem bB {f:Operand} {args:Array Operand} {ts:Array TypeId} {g:FuncId} {first cap xs ys:List DV} (hd:fQ nt dst=true) (hf:e.ev f=some (.fn (.func g) first cap)) (hx:args.toList.mapM e.ev=some xs) (hy:DV.norms (first++xs++cap)=ys)
  (k:aB P g ys σ fun r σ'=>WS P nt ops rest (e.put dst r) σ' K):WS P nt ops (⟨dst,.call { callee := .value f,args,argTypes:=ts },ty,pos,after,none⟩::rest) e σ K:=⟨RR hd hf hx hy (k.mono fun _ _ h=>h.h)⟩
theorem YG {op:Op} {j t:Nat} {want:Bool} (hj:(ops[j]?).bind (·.dst)=some t) (hb:e.get t=some (.d (.sc (.bool want)))) (k1:WS P nt ops (⟨dst,op,ty,pos,after,none⟩::rest) e σ K):WS P nt ops (⟨dst,op,ty,pos,after,some (j,want)⟩::rest) e σ K:=⟨XS hj hb k1.h⟩
theorem YF {op:Op} {j t:Nat} {want:Bool} (hj:(ops[j]?).bind (·.dst)=some t) (hb:e.get t=some (.d (.sc (.bool !want)))) (k2:WS P nt ops rest (e.del dst) σ K):WS P nt ops (⟨dst,op,ty,pos,after,some (j,want)⟩::rest) e σ K:=⟨XR hj hb k2.h⟩
theorem U0 (k:K e σ):WS P nt ops [] e σ K:=⟨k⟩
theorem fI {x y:Code} (h:AC P nt x e σ (qV (fun e' σ'=>AC P nt y e' σ' Q) Q)):AC P nt (.seq x y) e σ Q :=
 ⟨bU.seq (h.h.mono fun ex e σ hq=>by cases ex <;> first | exact hq.h | exact hq)⟩
theorem K3 {id:Nat} {l:List Oper} (hops:l.all (i0 nt)=true) (h:WS P nt l.toArray l e σ (Q .normal)):AC P nt (.region id l.toArray false) e σ Q:=⟨LF hops h.h⟩
theorem N6 {id:Nat} {l:List Oper} (hm:P.follows .mixedOrders=true) (hops:l.all (i0 nt)=true) (hp:qL l.toArray [] [] (lD 0 l)=true) (h:bO P nt l.toArray (Q .normal) [] [] (lD 0 l) e σ):AC P nt (.region id l.toArray true) e σ Q:=⟨OH hm hops hp h⟩
theorem QZ {c:Operand} {x y:Code} {b:Bool} (hc:e.ev c=some (.d (.sc (.bool b)))) (ht:b=true→AC P nt x e σ Q) (hf:b=false→AC P nt y e σ Q):AC P nt (.cond c x y) e σ Q:=⟨bU.cond hc (fun h=>(ht h).h) (fun h=>(hf h).h)⟩
theorem N5 {id:Nat} {c:Code} (h:AC P nt c e σ (kA id Q)):AC P nt (.block id c) e σ Q:=⟨bU.block h.h⟩
theorem QB (h:Q .ret e σ):AC P nt .ret e σ Q:=⟨bU.ret h⟩
theorem Q1 (h:Q .normal e σ):AC P nt .skip e σ Q:=⟨bU.skip h⟩
theorem sV {l:Nat} (h:Q .normal e σ):AC P nt (.label l) e σ Q:=⟨bU.label h⟩
theorem Q0 {id:Nat} (h:Q (.exit id) e σ):AC P nt (.exit id) e σ Q:=⟨bU.exit h⟩
theorem cF {c:Code} (ks:List Nat) (h:e.pick ks=e') (k:AC P nt c e' σ Q):AC P nt c e σ Q:=⟨bU.keep ks h k.h⟩
theorem i2 {c:Code} (J:Nat→aW→aA→Prop) {n:Nat} (h0:J n e σ)
  (round:∀ n e σ,J n e σ→AC P nt c e σ (qV (fun e' σ'=>∃ n' e'',n' < n∧e''.sub e'∧J n' e'' σ') Q)):AC P nt (.loop c) e σ Q:=⟨bU.loop J h0 fun n e σ h=>(round n e σ h).h⟩
theorem of_body {f:FuncId} {fn:Func} {c:Code} {args:List DV} {R:DV→aA→Prop} (hf:P.funcs[f]? = some fn) (hb:fn.body=some c) (hn:(fn.name == "runtime.NumGoroutine")=false) (hl:args.length≤fn.ntmps)
  (h:AC P fn.ntmps c (iL 0 args) σ (Fin P fn σ.length R)):aB P f args σ R:=aB.of_body hf hb hn hl h.h
end
section
variable {P:Program} {nt:Nat} {Q:Exit→aW→aA→Prop} {e:aW} {σ:aA} {ops:Array Oper} {dst:Option Nat} {ty:TypeId} {pos:String} {after:Array Edge} {rest:List Oper} {dest:List (Nat × Oper)} {K:aW→aA→Prop} {g:Option (Nat × Bool)} {i:Nat} {seen:List Nat} {lt:List dQ} {c:Code}
theorem kw {o:Oper} (k:WS P nt ops (o::rest) e σ K):WS P nt ops (o::rest) e σ K:=k
theorem kwg {op:Op} {j:Nat × Bool} (k:WS P nt ops (⟨dst,op,ty,pos,after,some j⟩::rest) e σ K):WS P nt ops (⟨dst,op,ty,pos,after,some j⟩::rest) e σ K:=k
theorem kd {o:Nat × Oper} (k:bR P nt ops K seen lt (o::dest) e σ):bR P nt ops K seen lt (o::dest) e σ:=k
theorem ka (k:AC P nt c e σ Q):AC P nt c e σ Q:=k
theorem f9 {t:TypeId} {x:Operand} (k:WS P nt ops (⟨dst,.load t x,ty,pos,after,none⟩::rest) e σ K):WS P nt ops (⟨dst,.load t x,ty,pos,after,none⟩::rest) e σ K:=k
theorem dI {t:TypeId} {x:Operand} (k:bR P nt ops K seen lt ((i,⟨dst,.load t x,ty,pos,after,g⟩)::dest) e σ):bR P nt ops K seen lt ((i,⟨dst,.load t x,ty,pos,after,g⟩)::dest) e σ:=k
theorem EK {op:BinOp} {t yt:TypeId} {x y:Operand} (k:WS P nt ops (⟨dst,.binOp op t x y yt,ty,pos,after,none⟩::rest) e σ K):WS P nt ops (⟨dst,.binOp op t x y yt,ty,pos,after,none⟩::rest) e σ K:=k
theorem TN {op:BinOp} {t yt:TypeId} {x y:Operand} (k:bR P nt ops K seen lt ((i,⟨dst,.binOp op t x y yt,ty,pos,after,g⟩)::dest) e σ):bR P nt ops K seen lt ((i,⟨dst,.binOp op t x y yt,ty,pos,after,g⟩)::dest) e σ:=k
theorem kT {args:Array Operand} {ts:Array TypeId} (k:WS P nt ops (⟨dst,.call { callee := .builtin .len,args:=args,argTypes:=ts },ty,pos,after,none⟩::rest) e σ K):WS P nt ops (⟨dst,.call { callee := .builtin .len,args:=args,argTypes:=ts },ty,pos,after,none⟩::rest) e σ K:=k
theorem nH {args:Array Operand} {ts:Array TypeId} (k:bR P nt ops K seen lt ((i,⟨dst,.call { callee := .builtin .len,args:=args,argTypes:=ts },ty,pos,after,g⟩)::dest) e σ):bR P nt ops K seen lt ((i,⟨dst,.call { callee := .builtin .len,args:=args,argTypes:=ts },ty,pos,after,g⟩)::dest) e σ:=k
theorem vQ {args:Array Operand} {ts:Array TypeId} (k:WS P nt ops (⟨dst,.call { callee := .builtin .append,args:=args,argTypes:=ts },ty,pos,after,none⟩::rest) e σ K):WS P nt ops (⟨dst,.call { callee := .builtin .append,args:=args,argTypes:=ts },ty,pos,after,none⟩::rest) e σ K:=k
theorem LW {args:Array Operand} {ts:Array TypeId} (k:bR P nt ops K seen lt ((i,⟨dst,.call { callee := .builtin .append,args:=args,argTypes:=ts },ty,pos,after,g⟩)::dest) e σ):bR P nt ops K seen lt ((i,⟨dst,.call { callee := .builtin .append,args:=args,argTypes:=ts },ty,pos,after,g⟩)::dest) e σ:=k
theorem aJ {f:Operand} {args:Array Operand} {ts:Array TypeId} (k:WS P nt ops (⟨dst,.call { callee := .value f,args:=args,argTypes:=ts },ty,pos,after,none⟩::rest) e σ K):WS P nt ops (⟨dst,.call { callee := .value f,args:=args,argTypes:=ts },ty,pos,after,none⟩::rest) e σ K:=k
theorem bM {f:Operand} {args:Array Operand} {ts:Array TypeId} (k:bR P nt ops K seen lt ((i,⟨dst,.call { callee := .value f,args:=args,argTypes:=ts },ty,pos,after,g⟩)::dest) e σ):bR P nt ops K seen lt ((i,⟨dst,.call { callee := .value f,args:=args,argTypes:=ts },ty,pos,after,g⟩)::dest) e σ:=k
theorem fO {t:TypeId} {x j:Operand} (k:WS P nt ops (⟨dst,.indexAddr t x j,ty,pos,after,none⟩::rest) e σ K):WS P nt ops (⟨dst,.indexAddr t x j,ty,pos,after,none⟩::rest) e σ K:=k
theorem c7 {t:TypeId} {x j:Operand} (k:bR P nt ops K seen lt ((i,⟨dst,.indexAddr t x j,ty,pos,after,g⟩)::dest) e σ):bR P nt ops K seen lt ((i,⟨dst,.indexAddr t x j,ty,pos,after,g⟩)::dest) e σ:=k
theorem aE {t:TypeId} {a x:Operand} (k:WS P nt ops (⟨dst,.store t a x,ty,pos,after,none⟩::rest) e σ K):WS P nt ops (⟨dst,.store t a x,ty,pos,after,none⟩::rest) e σ K:=k
theorem aV {t:TypeId} {a x:Operand} (k:bR P nt ops K seen lt ((i,⟨dst,.store t a x,ty,pos,after,g⟩)::dest) e σ):bR P nt ops K seen lt ((i,⟨dst,.store t a x,ty,pos,after,g⟩)::dest) e σ:=k
theorem BS {t:TypeId} {x:Operand} {lo hi mx:Option Operand} (k:WS P nt ops (⟨dst,.slice t x lo hi mx,ty,pos,after,none⟩::rest) e σ K):WS P nt ops (⟨dst,.slice t x lo hi mx,ty,pos,after,none⟩::rest) e σ K:=k
theorem j5 {t:TypeId} {x:Operand} {lo hi mx:Option Operand} (k:bR P nt ops K seen lt ((i,⟨dst,.slice t x lo hi mx,ty,pos,after,g⟩)::dest) e σ):bR P nt ops K seen lt ((i,⟨dst,.slice t x lo hi mx,ty,pos,after,g⟩)::dest) e σ:=k
theorem NO {t:TypeId} {l c:Operand} (k:WS P nt ops (⟨dst,.makeSlice t l c,ty,pos,after,none⟩::rest) e σ K):WS P nt ops (⟨dst,.makeSlice t l c,ty,pos,after,none⟩::rest) e σ K:=k
end
inductive EQ:aR→Prop
 | sc {v:Value} (h:pU v=true):EQ (.sc v)
 | lst {es:List (List aR)} (hl:es.length≤gY) (h:∀ cs ∈ es,∀ x ∈ cs,EQ x):EQ (.lst es)
 | mp {es:List (Value × Bool × List aR)}:EQ (.mp es)
def WJ:DV→Prop
 | .d x=>EQ x
 | .agg cs=>∀ x,DV.d x ∈ cs→EQ x
 | _=>True
def P6:aU→Prop
 | .box _ cs=>∀ x,DV.d x ∈ cs→EQ x
 | .arr _ es=>es.length≤gY∧∀ cs ∈ es,∀ x,DV.d x ∈ cs→EQ x
 | .map _=>True
 | .deep _ _=>True
section
variable {P:Program} {X:Nat→Prop} {ι:bZ} {w:World} {M:Nat→Prop} {σ:aA}
theorem dL.ok {x:aR} {v:Value} (h:dL w M x v):EQ x:=by
 induction h with
 | sc v h=>exact .sc h
 | emp A c=>exact .lst (Nat.zero_le _) (fun cs h=>by simp at h)
 | lst b o n c size es vs hn hc hm hb hM hs hcell hrel ih =>
  refine .lst (hn ▸ hm) (fun cs hcs x hx=>?_)
  obtain ⟨i,hi⟩:=List.mem_iff_getElem?.1 hcs
  obtain ⟨j,hj⟩:=List.mem_iff_getElem?.1 hx
  exact ih i j cs x hi hj
 | mp r ms clock es hM hh hl hk hrel ih=>exact .mp
theorem aX.ok {x:DV} {v:Value} (h:aX ι w M x v):WJ x:=by
 cases h with
 | d h=>exact h.ok
 | agg cs vs hl h =>
  intro x hx
  obtain ⟨i,hi⟩:=List.mem_iff_getElem?.1 hx
  have hi':i < vs.size:=by rw [hl];exact (List.getElem?_eq_some_iff.1 hi).1
  have:=h i _ _ hi (Array.getElem?_eq_getElem hi')
  cases this with
  | d h=>exact h.ok
 | _=>trivial
theorem cM.ok {xs:List DV} {vs:List Value} (h:cM ι w M xs vs):∀ x ∈ xs,WJ x:=by
 intro x hx
 obtain ⟨i,hi⟩:=List.mem_iff_getElem?.1 hx
 have hi':i < vs.length:=by rw [h.len];exact (List.getElem?_eq_some_iff.1 hi).1
 exact (h.get i x _ hi (List.getElem?_eq_getElem hi')).ok
theorem bE.ok {o:aU} {v:Value} (h:bE P ι w M v o):P6 o:=by
 cases h with
 | box ty cells b cs h1 hl h h2 =>
  intro x hx
  obtain ⟨i,hi⟩:=List.mem_iff_getElem?.1 hx
  have hi':i < cs.size:=by rw [hl];exact (List.getElem?_eq_some_iff.1 hi).1
  exact (h i _ _ hi (Array.getElem?_eq_getElem hi')).ok
 | nil elem A=>exact ⟨Nat.zero_le _,fun cs h=>by simp at h⟩
 | arr elem es b o c cs h1 hc hn hm hs hcl h =>
  refine ⟨hm,fun e he x hx=>?_⟩
  obtain ⟨i,hi⟩:=List.mem_iff_getElem?.1 he
  obtain ⟨j,hj⟩:=List.mem_iff_getElem?.1 hx
  have hil:=(List.getElem?_eq_some_iff.1 hi).1
  have hjl:j < P.cellsOf elem:=by rw [← hs e he];exact (List.getElem?_eq_some_iff.1 hj).1
  have hlt:o + (i * P.cellsOf elem + j) < cs.size:=by
   have:i * P.cellsOf elem + j < c * P.cellsOf elem:=by
    have h1:(i + 1) * P.cellsOf elem≤c * P.cellsOf elem:=Nat.mul_le_mul_right _ (by omega)
    rw [Nat.add_mul,Nat.one_mul] at h1
    omega
   omega
  exact (h i j e _ _ hi hj (Array.getElem?_eq_getElem hlt)).ok
 | map es r ms clock hh hl hk h=>trivial
 | deep T bs v h hs hlt=>trivial
theorem aB.assume {f:FuncId} {args:List DV} {R:DV→aA→Prop} (hb:j0 P f=true) (h:(∀ x ∈ args,WJ x)→(∀ id o,σ.look id=some o→P6 o)→aB P f args σ R):aB P f args σ R :=
 ⟨hb,fun X ι w vs hh hr=>(h hr.ok (fun id o ho=>by
  obtain ⟨v,_,h2⟩:=hh.obj id o ho
  exact h2.ok)).run X ι w vs hh hr⟩
theorem wG {s:ByteArray} (h:EQ (.sc (.string s))):s.size≤maxLen:=by
 cases h with
 | sc h=>simpa [pU] using h
theorem rG {es:List (List aR)} (h:EQ (.lst es)):es.length≤gY∧∀ cs ∈ es,∀ x ∈ cs,EQ x:=by
 cases h with
 | lst hl h=>exact ⟨hl,h⟩
theorem KO (n:Int):IntKind.i64.wrap n=if 9223372036854775808≤n % 18446744073709551616 then n % 18446744073709551616 - 18446744073709551616 else n % 18446744073709551616:=by
 unfold IntKind.wrap
 have h1:((2:Int) ^ IntKind.i64.bits)=18446744073709551616:=by decide
 have h2:((2:Int) ^ (IntKind.i64.bits - 1))=9223372036854775808:=by decide
 have h3:IntKind.i64.signed=true:=rfl
 simp only [h1,h2,h3,Bool.true_and,decide_eq_true_eq,ge_iff_le]
theorem aL {n:Int} (h1:-9223372036854775808≤n) (h2:n≤9223372036854775807):IntKind.i64.wrap n=n:=by
 rw [KO]
 split <;> omega
theorem dC {nt:Nat} {K:aW→aA→Prop} {e:aW} {ops:Array Oper} {seen:List Nat} {lt:List dQ} {rest:List (Nat × Oper)} {i:Nat} {o:Oper} {d:DV} {R:List Nat} (h:Ev P o.op e σ σ.length d σ) (hw:aT ops o e=some true) (hR:dA o.op e=R) (hW:bF o.op e σ.length=[]) (hc:yU lt (bN o) R []=true)
  (k:bO P nt ops K (i::seen) (⟨i,o.dst,o.looksAt ops,R,[]⟩::lt) rest (e.put o.dst d) σ):bR P nt ops K seen lt ((i,o)::rest) e σ :=
 V3 h hw hR hW hc (by rw [sI hW];rfl) k
theorem TE {nt:Nat} {K:aW→aA→Prop} {e:aW} {ops:Array Oper} {seen:List Nat} {lt:List dQ} {rest:List (Nat × Oper)} {i:Nat} {o:Oper} {d:DV} {R W:List Nat} {σ':aA} (h:Ev P o.op e σ σ.length d σ') (hw:aT ops o e=some true) (hR:dA o.op e=R) (hW:bF o.op e σ.length=W) (hc:yU lt (bN o) R W=true) (hl:σ'.length=σ.length + 1)
  (k:bO P nt ops K (i::seen) (⟨i,o.dst,o.looksAt ops,R,W⟩::lt) rest (e.put o.dst d) σ'):bR P nt ops K seen lt ((i,o)::rest) e σ :=
 V3 h hw hR hW hc (by unfold mH;split <;> first | rfl | rw [if_neg (by omega)]) k
theorem dK {es:List (List aR)} (h:EQ (.lst es)):(es.length:Int)≤140737488355328:=by
 have:=(rG h).1
 unfold gY at this
 omega
end
def nZ (P:Program) (el:TypeId):Option Nat :=
 match P.info? el with
 | some inf=>if inf.zero.any (fun z=>z.cells.size == inf.size) then some inf.bytes else none
 | none=>none
def RN:TypeDesc→Bool
 | .int _=>false
 | _=>true
section
variable {P:Program} {nt:Nat} {e:aW} {σ:aA}
theorem fY {x y:Operand} {t u el:TypeId} {sz by':Nat} {ud:TypeDesc} {dx dy:DV} {es xs:List (List DV)} {old:Option Nat} (ht:dU P t=some (el,sz)) (hu:P.underlying u=some ud) (hn:RN ud=true) (hx:e.ev x=some dx) (hy:e.ev y=some dy)
  (hb:nZ P el=some by') (hd:vV σ el dx=some (es,old)) (hs:rT P σ sz dy=some xs) (hc:vB (es.length + xs.length) by'=true) :
  Ev P (.call { callee := .builtin .append,args:=#[x,y],argTypes:=#[t,u] }) e σ σ.length (.arr σ.length) ((σ.less old)++[some (.arr el (es++xs))]):=by
 unfold nZ at hb
 cases hi:P.info? el with
 | none=>rw [hi] at hb;cases hb
 | some inf =>
  rw [hi] at hb
  simp only at hb
  split at hb
  ·rename_i hz
   cases hb
   have hl:(σ.less old).length=σ.length:=eR (fun i h=>(s6 hd i h).1)
   refine ⟨?_⟩
   have hput:(σ.less old).put σ.length (some (.arr el (es++xs)))=(σ.less old)++[some (.arr el (es++xs))]:=by
    rw [aA.put_eq]
    rw [if_neg (by rw [hl];exact Nat.lt_irrefl _)]
   rw [← hput]
   cases ud <;> first | (cases hn;done) | (simp [aZ,d8,ht,hu,hx,hy,hi,hd,hs,hc,hz])
  ·cases hb
theorem mM {id:Nat} {el el':TypeId} {es:List (List DV)} (hl:σ.look id=some (.arr el' es)) (he:el'=el):vV σ el (.arr id)=some (es,some id):=by simp only [vV,hl,he,if_true]
theorem HP {id sz:Nat} {el:TypeId} {es:List (List DV)} (hl:σ.look id=some (.arr el es)) (he:P.cellsOf el=sz):rT P σ sz (.arr id)=some es:=by simp only [rT,hl,he,if_true]
theorem iI {sz:Nat} {es:List (List aR)} (h:∀ c ∈ es,c.length=sz):rT P σ sz (.d (.lst es))=some (es.map fun e=>e.map DV.d):=by
 have:es.all (fun c=>c.length == sz)=true:=by simpa [List.all_eq_true] using h
 simp only [rT,this,if_true]
theorem QO {t el:TypeId} {m sz:Nat} {parts:Array (Nat × Operand)} {vs:List DV} {es:List (List aR)} (ht:dU P t=some (el,sz)) (hv:parts.toList.mapM (fun p=>e.ev p.2)=some vs)
  (hc:decide (parts.toList.map (·.1)=List.range m)=true) (ha:vs.all (fun d=>eO d && (aH d).length == sz)=true) (hm:decide (m≤16777216∧m * sz≤16777216)=true) (hz:(iT P el).isSome=true) (hd:litD t m parts (vs.map aH)=some es) {n:Nat} :
  Ev P (.buildSlice t m parts) e σ n (.d (.lst es)) σ:=by
 have hz':((P.info? el).bind (·.zero)).isSome=true:=by
  unfold iT at hz
  cases hi:P.info? el with
  | none=>rw [hi] at hz;cases hz
  | some i =>
   rw [hi] at hz
   simp only [Option.bind_some] at hz ⊢
   cases hzz:i.zero with
   | none=>rw [hzz] at hz;cases hz
   | some z=>rfl
 have hc':=of_decide_eq_true hc
 have hm':=of_decide_eq_true hm
 exact ⟨by simp only [aZ,fD,ht,hv,hc',ha,hm',hz',and_self,if_true,hd,Option.map]⟩
theorem R9 {t el:TypeId} {m sz:Nat} {parts:Array (Nat × Operand)} {vs:List DV} (ht:dU P t=some (el,sz)) (hv:parts.toList.mapM (fun p=>e.ev p.2)=some vs)
  (hc:decide (parts.toList.map (·.1)=List.range m)=true) (ha:vs.all (fun d=>eO d && (aH d).length == sz)=true) (hm:decide (m≤16777216∧m * sz≤16777216)=true) (hz:(iT P el).isSome=true) (hd:litD t m parts (vs.map aH)=none) :
  Ev P (.buildSlice t m parts) e σ σ.length (.arr σ.length) (σ++[some (.arr el (vs.map aH))]):=by
 have hz':((P.info? el).bind (·.zero)).isSome=true:=by
  unfold iT at hz
  cases hi:P.info? el with
  | none=>rw [hi] at hz;cases hz
  | some i =>
   rw [hi] at hz
   simp only [Option.bind_some] at hz ⊢
   cases hzz:i.zero with
   | none=>rw [hzz] at hz;cases hz
   | some z=>rfl
 have hc':=of_decide_eq_true hc
 have hm':=of_decide_eq_true hm
 exact ⟨by simp only [aZ,fD,ht,hv,hc',ha,hm',hz',and_self,if_true,hd,Option.map,aA.put_eq,Nat.lt_irrefl,if_false]⟩
theorem SA {t el:TypeId} {sz by':Nat} {l c:Operand} {k k':IntKind} {n m:Int} {z:DV} (ht:dU P t=some (el,sz)) (hl:e.ev l=some (.d (.sc (.int k n)))) (hc:e.ev c=some (.d (.sc (.int k' m)))) (hb:(P.info? el).map (·.bytes)=some by') (hz:iT P el=some z)
  (h0:0≤n) (h1:n≤m) (h2:m * by'≤281474976710656) (h3:m≤(gY:Int)) (h4:eO z=true) (h5:(aH z).length=sz) :
  Ev P (.makeSlice t l c) e σ σ.length (.arr σ.length) (σ++[some (.arr el (List.replicate n.toNat (aH z)))]):=by
 obtain ⟨inf,hi,rfl⟩:=Option.map_eq_some_iff.1 hb
 exact ⟨by simp only [aZ,fD,ht,hl,hc,hi,hz,h0,h1,h2,h3,h4,h5,and_self,if_true,Option.map,aA.put_eq,Nat.lt_irrefl,if_false]⟩
theorem TH {K:aW→aA→Prop} {ops:Array Oper} {seen:List Nat} {lt:List dQ} {rest:List (Nat × Oper)} {i:Nat} {o:Oper} {d:DV} {W:List Nat} (h:Ev P o.op e σ σ.length d σ) (hw:aT ops o e=some true) (hm:iF o.op=true) (hR:dA o.op e=[]) (hW:bF o.op e σ.length=W) (hc:yU lt (bN o) [] W=true)
  (k:bO P nt ops K (i::seen) (⟨i,o.dst,o.looksAt ops,[],W⟩::lt) rest (e.put o.dst d) (σ++[none])):bR P nt ops K seen lt ((i,o)::rest) e σ :=
 V3 h hw hR hW hc (by
  rw [hm];simp only [if_true]
  unfold mH
  rw [if_pos (Nat.lt_succ_self _),Nat.add_sub_cancel_left];rfl) k
end
section
variable {P:Program} {X:Nat→Prop} {nt:Nat} {w0 w:World} {ι0 ι:bZ} {σ0 σ:aA} {e:aW} {a:Act}
theorem FC {id:Nat} {el:TypeId} {es:List (List DV)} {ds:List (List aR)} {v:Value} (hh:aQ P X ι σ w) (hv:ι id=some v) (hl:σ.look id=some (.arr el es)) (hd:gM es=some ds):dL w (bQ X ι (σ.put id none)) (.lst ds) v:=by
 obtain ⟨v',h1,h2⟩:=hh.obj id _ hl
 rw [hv] at h1;cases h1
 obtain ⟨g1,g2⟩:=pN hd
 have hidl:=a7 hl
 have hM:∀ b,bQ X ι (σ.put id none) b→bQ X ι σ b:=fun b hb=>hb.imp (fun h=>h) (fun ⟨i,o,u,k1,k2,k3⟩=>by
  rw [aA.look_put (Nat.le_of_lt hidl)] at k1
  split at k1
  ·cases k1
  ·exact ⟨i,o,u,k1,k2,k3⟩)
 cases h2 with
 | nil elem A =>
  have:ds=[]:=by simpa [gM] using hd.symm
  subst this
  exact .emp A 0
 | arr elem es b o c cs h1 hc hn hm hs hcl h =>
  cases hes:es with
  | nil =>
   subst hes
   have:ds=[]:=by simpa [gM] using hd.symm
   subst this
   exact .emp _ c
  | cons e1 es1 =>
   rw [← hes]
   have hb:w.heap[b]? = some (.cells cs el (0,0)):=h1
   have hpos:0 < es.length:=by rw [hes];simp
   obtain ⟨c',rfl⟩:∃ c',c=c' + 1:=⟨c - 1,by omega⟩
   have hown:g8 ι σ b:=⟨id,_,_,hl,hv,by
    obtain ⟨m,hm'⟩:∃ m,es.length=m + 1:=⟨es.length - 1,by omega⟩
    rfl⟩
   have hlen:∀ (i:Nat) (x:List aR),ds[i]? = some x→∃ e,es[i]? = some e∧jH e=some x∧x.length=P.cellsOf el:=by
    intro i x hx
    obtain ⟨e,k1,k2⟩:=g2 i x hx
    exact ⟨e,k1,k2,by rw [(jQ k2).1];exact hs e (List.mem_of_getElem? k1)⟩
   have hlt:∀ i j,i < es.length→j < P.cellsOf el→o + (i * P.cellsOf el + j) < cs.size:=by
    intro i j hi hj
    have h3:(i + 1) * P.cellsOf el≤(c' + 1) * P.cellsOf el:=Nat.mul_le_mul_right _ (by omega)
    rw [Nat.add_mul,Nat.one_mul] at h3
    omega
   refine .lst b o es.length (c' + 1) (P.cellsOf el) ds (fun i j=>cs.getD (o + (i * P.cellsOf el + j)) undef) g1 hn hm (Array.getElem?_eq_some_iff.1 hb).1 ?_ (fun i x hx=>(hlen i x hx).choose_spec.2.2) (fun i j x y hx hy=>?_) (fun i j x y hx hy=>?_)
   ·rintro (hX | ⟨i,o',u,k1,k2,k3⟩)
    ·exact hh.apart b hown hX
    ·rw [aA.look_put (Nat.le_of_lt hidl)] at k1
     split at k1
     ·cases k1
     ·rename_i hne
      exact hne (hh.inj i id o' _ u _ b k1 hl k2 hv k3 rfl)
   ·obtain ⟨e,k1,k2,k3⟩:=hlen i x hx
    have hi:=(List.getElem?_eq_some_iff.1 k1).1
    have hj:j < P.cellsOf el:=by rw [← k3];exact (List.getElem?_eq_some_iff.1 hy).1
    have:=hlt i j hi hj
    unfold World.cell?
    simp only [hb]
    simp [this]
   ·obtain ⟨e,k1,k2,k3⟩:=hlen i x hx
    have hi:=(List.getElem?_eq_some_iff.1 k1).1
    have hj:j < P.cellsOf el:=by rw [← k3];exact (List.getElem?_eq_some_iff.1 hy).1
    have hlt':=hlt i j hi hj
    obtain ⟨d,m1,m2⟩:=(jQ k2).2 j y hy
    have hrel:=h i j e d (cs.getD (o + (i * P.cellsOf el + j)) undef) k1 m1 (by simp [hlt'])
    rcases m2 with rfl | ⟨rfl,rfl⟩
    ·generalize cs.getD (o + (i * P.cellsOf el + j)) undef=u at hrel
     cases hrel with
     | d hrel=>exact hrel.mono (a8.refl (bQ X ι σ) w) (fun b _ hb=>hM b hb)
    ·generalize cs.getD (o + (i * P.cellsOf el + j)) undef=u at hrel
     cases hrel with
     | nils A=>exact .emp A 0
end
section
variable {P:Program} {nt:Nat} {e:aW} {σ:aA} {n:Nat}
theorem ND {x y:Operand} {t u el:TypeId} {sz id:Nat} {dy:DV} {es xs:List (List DV)} (ht:dU P t=some (el,sz)) (hx:e.ev x=some (.arr id)) (hy:e.ev y=some dy) (hl:σ.look id=some (.arr el es)) (hs:rT P σ sz dy=some xs) :
  Ev P (.call { callee := .builtin .copy,args:=#[x,y],argTypes:=#[t,u] }) e σ n (.d (.sc (.int .i64 (Nat.min xs.length es.length)))) (σ.put id (some (.arr el (xs.take es.length++es.drop xs.length)))) :=
 ⟨by simp [aZ,gF,ht,hx,hy,hl,hs]⟩
end
section
variable {P:Program} {nt:Nat} {e:aW} {σ σ':aA} {n:Nat} {d:DV} {ops:Array Oper} {rest:List Oper} {dest:List (Nat × Oper)} {ty:TypeId} {pos:String} {after:Array Edge} {K:aW→aA→Prop} {g:Option (Nat × Bool)} {i:Nat} {seen:List Nat} {lt:List dQ} {dst:Option Nat}
theorem P1 {t:TypeId}:Ev P (.makeMap t none) e σ σ.length (.mp σ.length) (σ++[some (.map [])]) :=
 ⟨by simp only [aZ,c8,aA.put_eq,Nat.lt_irrefl,if_false]⟩
theorem GE {t vt:TypeId} {x k:Operand} {kd:TypeDesc} {dx:DV} {kv:Value} {q:DV × Bool} (ht:nK P t=some (kd,vt)) (hx:e.ev x=some dx) (hk:e.ev k=some (.d (.sc kv))) (ho:qJ kd kv=true) (hl:lY P kd vt kv σ dx=some q):Ev P (.lookup t x k false) e σ n q.1 σ :=
 ⟨by simp [aZ,c8,ht,hx,hk,ho,hl]⟩
theorem EG {t vt:TypeId} {x k:Operand} {kd:TypeDesc} {dx:DV} {kv:Value} {q:DV × Bool} (ht:nK P t=some (kd,vt)) (hx:e.ev x=some dx) (hk:e.ev k=some (.d (.sc kv))) (ho:qJ kd kv=true) (hl:lY P kd vt kv σ dx=some q):Ev P (.lookup t x k true) e σ n (.tup [q.1,.d (.sc (.bool q.2))]) σ :=
 ⟨by simp [aZ,c8,ht,hx,hk,ho,hl]⟩
theorem MF {t vt:TypeId} {m k v:Operand} {kd:TypeDesc} {id:Nat} {kv:Value} {es:List (Value × DV)} {q:Option Nat} (ht:nK P t=some (kd,vt)) (hm:e.ev m=some (.mp id)) (hk:e.ev k=some (.d (.sc kv))) (hv:e.ev v=some d) (ho:qJ kd kv=true) (hl:σ.look id=some (.map es)) (hf:mE kd kv es 0=some q) :
  c8 P (.insert t m k v) e σ n=some (none,σ.put id (some (.map (tV es kv d q)))):=by simp [c8,ht,hm,hk,hv,ho,hl,hf]
theorem HQ {t vt:TypeId} {m k v:Operand} {kd:TypeDesc} {id:Nat} {kv:Value} {es es':List (Value × DV)} {q:Option Nat} (ht:nK P t=some (kd,vt)) (hm:e.ev m=some (.mp id)) (hk:e.ev k=some (.d (.sc kv))) (hv:e.ev v=some d) (ho:qJ kd kv=true) (hl:σ.look id=some (.map es)) (hf:mE kd kv es 0=some q) (hp:tV es kv d q=es') (hs:σ.put id (some (.map es'))=σ')
  (h:WS P nt ops rest e σ' K):WS P nt ops (⟨none,.insert t m k v,ty,pos,after,none⟩::rest) e σ K:=by
 subst hp hs
 exact ⟨sT rfl rfl rfl (by simp only [aZ];exact MF (n:=σ.length) ht hm hk hv ho hl hf) h.h⟩
theorem R1 {t el:TypeId} {sz id l h:Nat} {x:Operand} {lo hi:Option Operand} {es:List (List DV)} (ht:dU P t=some (el,sz)) (hx:e.ev x=some (.arr id)) (hl:σ.look id=some (.arr el es)) (hh:eX e es.length es.length hi=some h) (hlo:eX e 0 h lo=some l) :
  Ev P (.slice t x lo hi none) e σ σ.length (.arr σ.length) ((σ.put id none)++[some (.arr el ((es.drop l).take (h - l)))]):=by
 have hL:(σ.put id none).length=σ.length:=by rw [aA.length_put,if_pos (a7 hl)]
 have:(σ.put id none).put σ.length (some (.arr el ((es.drop l).take (h - l))))=(σ.put id none)++[some (.arr el ((es.drop l).take (h - l)))]:=by
  rw [aA.put_eq]
  rw [if_neg]
  show ¬ σ.length < (σ.put id none).length
  rw [hL];exact Nat.lt_irrefl _
 exact ⟨by simp only [aZ,eI,hx,ht,hl,hh,hlo,if_true,Option.map,aA.less,this]⟩
def O7 (P:Program) (t:TypeId):Option (IntKind × TypeId):=match nK P t with
 | some (.int k,v)=>some (k,v)
 | _=>none
theorem JP {P:Program} {t v:TypeId} {k:IntKind} (h:O7 P t=some (k,v)):nK P t=some (.int k,v):=by
 unfold O7 at h
 split at h
 ·cases h;assumption
 ·cases h
theorem VC {x y:Operand} {k:IntKind} {a b:Int} {ts:Array TypeId} (hx:e.ev x=some (.d (.sc (.int k a)))) (hy:e.ev y=some (.d (.sc (.int k b)))):Ev P (.call { callee := .builtin .max,args:=#[x,y],argTypes:=ts }) e σ n (.d (.sc (.int k (if b > a then b else a)))) σ :=
 ⟨by simp [aZ,j6,hx,hy]⟩
theorem QP {x y:Operand} {k:IntKind} {a b:Int} {ts:Array TypeId} (hx:e.ev x=some (.d (.sc (.int k a)))) (hy:e.ev y=some (.d (.sc (.int k b)))):Ev P (.call { callee := .builtin .min,args:=#[x,y],argTypes:=ts }) e σ n (.d (.sc (.int k (if b < a then b else a)))) σ :=
 ⟨by simp [aZ,j6,hx,hy]⟩
theorem NN {t:TypeId} {x j:Operand} {ok:Bool} (k:WS P nt ops (⟨dst,.lookup t x j ok,ty,pos,after,none⟩::rest) e σ K):WS P nt ops (⟨dst,.lookup t x j ok,ty,pos,after,none⟩::rest) e σ K:=k
theorem LX {t:TypeId} {x j:Operand} {ok:Bool} (k:bR P nt ops K seen lt ((i,⟨dst,.lookup t x j ok,ty,pos,after,g⟩)::dest) e σ):bR P nt ops K seen lt ((i,⟨dst,.lookup t x j ok,ty,pos,after,g⟩)::dest) e σ:=k
end
end Go.Ab
