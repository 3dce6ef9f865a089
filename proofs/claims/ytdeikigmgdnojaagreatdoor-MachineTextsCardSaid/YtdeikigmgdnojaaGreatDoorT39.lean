import Derived.Test.YtdeikigmgdnojaaGreatDoorT24
import Derived.Test.YtdeikigmgdnojaaGreatDoorT16
import Derived.Test.YtdeikigmgdnojaaGreatDoorT15
import Derived.Test.YtdeikigmgdnojaaGreatDoorT10
import Derived.Shelf.Strings.BuilderK
/- A part of the proof of one law. -/
set_option maxRecDepth 100000
set_option maxHeartbeats 8000000
set_option linter.unusedVariables false
set_option linter.unusedSimpArgs false
namespace Go.Ab
open Go Go.Ab.Tryz Go.Proofs
section
variable {P:Program} {nt:Nat} {Q:Exit→aW→aA→Prop} {e:aW} {σ:aA} {ops:Array Oper} {dst:Option Nat} {ty:TypeId} {pos:String} {after:Array Edge} {rest:List Oper} {dest:List (Nat × Oper)} {K:aW→aA→Prop} {g:Option (Nat × Bool)} {i:Nat} {seen:List Nat} {lt:List dQ}
theorem aBm {t:TypeId} {x j:Operand} (k:bR P nt ops K seen lt ((i,⟨dst,.index t x j,ty,pos,after,g⟩)::dest) e σ):bR P nt ops K seen lt ((i,⟨dst,.index t x j,ty,pos,after,g⟩)::dest) e σ:=k
theorem q6 {t:TypeId} {ps:Array (Nat × Operand)} (k:bR P nt ops K seen lt ((i,⟨dst,.build t ps,ty,pos,after,g⟩)::dest) e σ):bR P nt ops K seen lt ((i,⟨dst,.build t ps,ty,pos,after,g⟩)::dest) e σ:=k
theorem W15 {t:TypeId} {x j:Operand} {d:DV} {σ':aA} (k:WS P nt ops rest (e.put dst d) σ' K) (h:Ev P (.indexAddr t x j) e σ σ.length d σ':=by exact BP (el rfl) rfl rfl rfl ZS ZS (sz rfl)) (a:fQ nt dst=true:=by exact rfl):WS P nt ops (⟨dst,.indexAddr t x j,ty,pos,after,none⟩::rest) e σ K:=cK h rfl a k
theorem D14 {t:TypeId} {x j:Operand} {d:DV} {R:List Nat} (k:bO P nt ops K (i::seen) (⟨i,dst,Oper.looksAt ops ⟨dst,.indexAddr t x j,ty,pos,after,g⟩,R,[]⟩::lt) dest (e.put dst d) σ) (h:Ev P (.indexAddr t x j) e σ σ.length d σ:=by exact R3 (el rfl) rfl rfl ZS (by assumption) ⟨rfl,by decide⟩) (a:aT ops ⟨dst,.indexAddr t x j,ty,pos,after,g⟩ e=some true:=by exact rfl) (q2:dA (.indexAddr t x j) e=R:=by exact rfl) (q3:bF (.indexAddr t x j) e σ.length=[]:=by exact rfl) (q4:yU lt (bN ⟨dst,.indexAddr t x j,ty,pos,after,g⟩) R []=true:=by exact rfl):bR P nt ops K seen lt ((i,⟨dst,.indexAddr t x j,ty,pos,after,g⟩)::dest) e σ:=dC h a q2 q3 q4 k
theorem sO {op:BinOp} {t yt:TypeId} {x y:Operand} {d:DV} (k:bO P nt ops K (i::seen) (⟨i,dst,Oper.looksAt ops ⟨dst,.binOp op t x y yt,ty,pos,after,g⟩,[],[]⟩::lt) dest (e.put dst d) σ) (h:Ev P (.binOp op t x y yt) e σ σ.length d σ:=by exact VB rfl rfl ZS) (a:aT ops ⟨dst,.binOp op t x y yt,ty,pos,after,g⟩ e=some true:=by exact rfl) (q2:dA (.binOp op t x y yt) e=[]:=by exact rfl) (q3:bF (.binOp op t x y yt) e σ.length=[]:=by exact rfl):bR P nt ops K seen lt ((i,⟨dst,.binOp op t x y yt,ty,pos,after,g⟩)::dest) e σ:=IX h a q2 q3 k
theorem W48 {t:TypeId} {m:Nat} {ps:Array (Nat × Operand)} {d:DV} {σ':aA} (k:WS P nt ops rest (e.put dst d) σ' K) (h:Ev P (.buildSlice t m ps) e σ σ.length d σ':=by exact R9 (el rfl) rfl rfl rfl rfl (YX rfl) rfl) (a:fQ nt dst=true:=by exact rfl):WS P nt ops (⟨dst,.buildSlice t m ps,ty,pos,after,none⟩::rest) e σ K:=cK h rfl a k
theorem W49 {args:Array Operand} {ts:Array TypeId} {d:DV} {σ':aA} (k:WS P nt ops rest (e.put dst d) σ' K) (h:Ev P (.call { callee := .builtin .append,args:=args,argTypes:=ts }) e σ σ.length d σ':=by exact fY (el rfl) (sl rfl) rfl rfl rfl (ap rfl) rfl (iI (by simp)) (by decide)) (a:fQ nt dst=true:=by exact rfl):WS P nt ops (⟨dst,.call { callee := .builtin .append,args:=args,argTypes:=ts },ty,pos,after,none⟩::rest) e σ K:=cK h rfl a k
theorem W23 {args:Array Operand} {ts:Array TypeId} {d:DV} {σ':aA} (k:WS P nt ops rest (e.put dst d) σ' K) (h:Ev P (.call { callee := .builtin .len,args:=args,argTypes:=ts }) e σ σ.length d σ':=by exact R7 (sl rfl) rfl) (a:fQ nt dst=true:=by exact rfl):WS P nt ops (⟨dst,.call { callee := .builtin .len,args:=args,argTypes:=ts },ty,pos,after,none⟩::rest) e σ K:=cK h rfl a k
theorem D52 {t:TypeId} {m:Nat} {ps:Array (Nat × Operand)} {d:DV} {R X:List Nat} {σ':aA} (k:bO P nt ops K (i::seen) (⟨i,dst,Oper.looksAt ops ⟨dst,.buildSlice t m ps,ty,pos,after,g⟩,R,X⟩::lt) dest (e.put dst d) σ') (h:Ev P (.buildSlice t m ps) e σ σ.length d σ':=by exact QO (el rfl) rfl rfl rfl rfl (YX rfl) rfl) (a:aT ops ⟨dst,.buildSlice t m ps,ty,pos,after,g⟩ e=some true:=by exact rfl) (q2:dA (.buildSlice t m ps) e=R:=by exact rfl) (q3:bF (.buildSlice t m ps) e σ.length=X:=by exact rfl) (q4:yU lt (bN ⟨dst,.buildSlice t m ps,ty,pos,after,g⟩) R X=true:=by exact rfl) (q5:σ'.length=σ.length + 1:=by exact rfl):bR P nt ops K seen lt ((i,⟨dst,.buildSlice t m ps,ty,pos,after,g⟩)::dest) e σ:=TE h a q2 q3 q4 q5 k
theorem D29 {t:TypeId} {x j:Operand} {d:DV} (k:bO P nt ops K (i::seen) (⟨i,dst,Oper.looksAt ops ⟨dst,.index t x j,ty,pos,after,g⟩,[],[]⟩::lt) dest (e.put dst d) σ) (h:Ev P (.index t x j) e σ σ.length d σ:=by exact k0 (ar rfl) rfl rfl ZS ZS rfl) (a:aT ops ⟨dst,.index t x j,ty,pos,after,g⟩ e=some true:=by exact rfl) (q2:dA (.index t x j) e=[]:=by exact rfl) (q3:bF (.index t x j) e σ.length=[]:=by exact rfl):bR P nt ops K seen lt ((i,⟨dst,.index t x j,ty,pos,after,g⟩)::dest) e σ:=IX h a q2 q3 k
theorem W24 {args:Array Operand} {ts:Array TypeId} {d:DV} {σ':aA} (k:WS P nt ops rest (e.put dst d) σ' K) (h:Ev P (.call { callee := .builtin .len,args:=args,argTypes:=ts }) e σ σ.length d σ':=by exact v_lenN (sl rfl) rfl) (a:fQ nt dst=true:=by exact rfl):WS P nt ops (⟨dst,.call { callee := .builtin .len,args:=args,argTypes:=ts },ty,pos,after,none⟩::rest) e σ K:=cK h rfl a k
theorem W14 {t:TypeId} {x j:Operand} {d:DV} {σ':aA} (k:WS P nt ops rest (e.put dst d) σ' K) (h:Ev P (.indexAddr t x j) e σ σ.length d σ':=by exact R3 (el rfl) rfl rfl ZS (by assumption) ⟨rfl,by decide⟩) (a:fQ nt dst=true:=by exact rfl):WS P nt ops (⟨dst,.indexAddr t x j,ty,pos,after,none⟩::rest) e σ K:=cK h rfl a k
theorem D15 {t:TypeId} {x j:Operand} {d:DV} {R:List Nat} (k:bO P nt ops K (i::seen) (⟨i,dst,Oper.looksAt ops ⟨dst,.indexAddr t x j,ty,pos,after,g⟩,R,[]⟩::lt) dest (e.put dst d) σ) (h:Ev P (.indexAddr t x j) e σ σ.length d σ:=by exact BP (el rfl) rfl rfl rfl ZS ZS (sz rfl)) (a:aT ops ⟨dst,.indexAddr t x j,ty,pos,after,g⟩ e=some true:=by exact rfl) (q2:dA (.indexAddr t x j) e=R:=by exact rfl) (q3:bF (.indexAddr t x j) e σ.length=[]:=by exact rfl) (q4:yU lt (bN ⟨dst,.indexAddr t x j,ty,pos,after,g⟩) R []=true:=by exact rfl):bR P nt ops K seen lt ((i,⟨dst,.indexAddr t x j,ty,pos,after,g⟩)::dest) e σ:=dC h a q2 q3 q4 k
theorem W30 {s t:TypeId} {x:Operand} {d:DV} {σ':aA} (k:WS P nt ops rest (e.put dst d) σ' K) (h:Ev P (.convert s t x) e σ σ.length d σ':=by exact aA2 (isK rfl) (kd rfl) rfl) (a:fQ nt dst=true:=by exact rfl):WS P nt ops (⟨dst,.convert s t x,ty,pos,after,none⟩::rest) e σ K:=cK h rfl a k
theorem D53 {t:TypeId} {m:Nat} {ps:Array (Nat × Operand)} {d:DV} {X:List Nat} (k:bO P nt ops K (i::seen) (⟨i,dst,Oper.looksAt ops ⟨dst,.buildSlice t m ps,ty,pos,after,g⟩,[],X⟩::lt) dest (e.put dst d) (σ++[none])) (h:Ev P (.buildSlice t m ps) e σ σ.length d σ:=by exact R9 (el rfl) rfl rfl rfl rfl (YX rfl) rfl) (a:aT ops ⟨dst,.buildSlice t m ps,ty,pos,after,g⟩ e=some true:=by exact rfl) (q2:dA (.buildSlice t m ps) e=[]:=by exact rfl) (q3:bF (.buildSlice t m ps) e σ.length=X:=by exact rfl) (q4:yU lt (bN ⟨dst,.buildSlice t m ps,ty,pos,after,g⟩) [] X=true:=by exact rfl):bR P nt ops K seen lt ((i,⟨dst,.buildSlice t m ps,ty,pos,after,g⟩)::dest) e σ:=TH h a rfl q2 q3 q4 k
end
section
variable {P:Program} {nt:Nat} {e:aW} {σ σ':aA} {n:Nat} {d:DV} {ops:Array Oper} {rest:List Oper} {dest:List (Nat × Oper)} {ty:TypeId} {pos:String} {after:Array Edge} {K:aW→aA→Prop} {g:Option (Nat × Bool)} {i:Nat} {seen:List Nat} {lt:List dQ} {dst:Option Nat}
theorem k0 {t el:TypeId} {len sz:Nat} {x j:Operand} {cs:List DV} {kd:IntKind} {m:Int} {d':DV} (ha:wW P t=some (len,el,sz)) (hx:e.ev x=some (.agg cs)) (hi:e.ev j=some (.d (.sc (.int kd m)))) (h0:0≤m) (h1:m < (len:Int)) (hl:lX P el (cs.drop (m.toNat * sz))=some d') :
  Ev P (.index t x j) e σ n d' σ:=eY rfl (by simp only [aK,ha,hx,hi,h0,h1,and_self,if_true,hl])
end
section
variable {P:Program} {X:Nat→Prop} {ι:bZ} {w:World} {M:Nat→Prop} {σ:aA}
theorem a6 {k:IntKind} {n:Int} (h:EQ (.sc (.int k n))):k.min≤n∧n≤k.max:=by
 cases h with
 | sc h=>simpa [pU] using h
end
section
variable {P:Program} {σ:aA}
def aCw:DV→Bool
 | .d (.sc _)=>true
 | .tup l=>l.all fun d=>match d with | .d (.sc _)=>true | _=>false
 | .agg l=>l.all fun d=>match d with | .d (.sc _)=>true | _=>false
 | _=>false
theorem aB6 {ι ι':bZ} {w:World} {M M':Nat→Prop} {x:DV} {v:Value} (hx:aCw x=true) (h:aX ι w M x v):aX ι' w M' x v:=by
 have one:∀ {d:DV} {u:Value},(match d with | .d (.sc _)=>true | _=>false)=true→aX ι w M d u→aX ι' w M' d u:=by
  intro d u hd hr
  cases hr with
  | d hr=>cases hr with
   | sc v h=>exact .d (.sc _ h)
   | _=>simp at hd
  | _=>simp at hd
 cases h with
 | d h=>exact one (by cases h <;> simp_all [aCw]) (.d h)
 | agg cs vs hl h=>exact .agg cs vs hl (fun i x y hx' hy=>one (List.all_eq_true.1 (show cs.all _=true from hx) x (List.mem_of_getElem? hx')) (h i x y hx' hy))
 | tup cs vs hl h=>exact .tup cs vs hl (fun i x y hx' hy=>one (List.all_eq_true.1 (show cs.all _=true from hx) x (List.mem_of_getElem? hx')) (h i x y hx' hy))
 | _=>simp [aCw] at hx
theorem bY.borrow {f:FuncId} {args args':List DV} {x:DV} (h:bY P f args x) (hs:jX P σ args' args) (hx:aCw x=true) {R:DV→aA→Prop} (k:R x σ):aB P f args' σ R:=by
 refine ⟨h.body,fun X ι w vs hh hr=>?_⟩
 have hno:∀ b,¬ g8 (fun _=>none) [] b:=fun b ⟨i,o,u,g1,_⟩=>by simp [aA.look] at g1
 have h0:aQ P X (fun _=>none) [] w:=⟨fun _ _=>rfl,fun id o ho=>by simp [aA.look] at ho,fun id id' o o' v v' b ho=>by simp [aA.look] at ho,hh.xlt,fun b hb=>absurd hb (hno b),fun g hg=>by
   obtain ⟨g1,g2,g3⟩:=hh.glob g hg
   exact ⟨g1,fun hm=>hm.elim (fun h=>g2 (.inl h)) (hno g),g3⟩⟩
 have hr0:cM (fun _=>none) w (bQ X (fun _=>none) []) args vs:=⟨by rw [hr.len,hs.get.1],fun i y v h1 h2=>by
  have hi:i < args'.length:=by rw [← hs.get.1];exact (List.getElem?_eq_some_iff.1 h1).1
  obtain ⟨d',k1,k2⟩:=hs.get.2 i _ (List.getElem?_eq_getElem hi)
  rw [h1] at k1;cases k1
  exact (k2 X ι w v hh (hr.get i _ v (List.getElem?_eq_getElem hi) h2)).mono (fun _ _ h=>h) (a8.refl X w) (fun b _ hb=>hb.elim (fun h=>h) (fun h=>absurd h (hno b)))⟩
 refine (h.run X (fun _=>none) w vs h0 hr0).mono ?_
 rintro en w' ⟨v,r,σ',ι',rfl,⟨rfl,rfl⟩,hc,hv⟩
 have hf:a8 (g8 ι σ) w w':=hc.frame.mono (fun b _ hb=>absurd hb (hno b))
 have hcm:Comes' P X ι σ σ w ι w':=⟨fun _ _ h=>h,hf,hh.change hf (fun _ _ h=>h) hh.fresh (fun id o ho => .inl ⟨ho,fun u b hu hb=>hc.frame.block b (hh.mut_lt (.inr ⟨id,o,u,ho,hu,hb⟩)) (hno b)⟩) (fun _ _ h=>h) hh.inj,fun _ _ h=>h⟩
 exact ⟨v,r,σ,ι,rfl,k,⟨hcm,fun _ _=>rfl,Nat.le_refl _⟩,aB6 hx hv⟩
end
end Go.Ab
namespace Go.Ab
open Go Go.Shelf Go.RowKit Go.Proofs
section
variable {P:Program} {ρ:Ren}
theorem n3 {w:World} {base:Nat} {e:TypeId} {v:Value} {n:Nat} {xs:List Value} (h:w.ownsRowF base e 1 v n xs):w.ownsRowF 0 e 1 v n xs:=by
 refine ⟨h.1,?_⟩
 rcases h.2 with h | ⟨g,cap,cur,fz,h1,h2,h3⟩
 ·exact .inl h
 ·exact .inr ⟨g,cap,cur,fz,h1,Nat.zero_le _,h3⟩
theorem A0 (w:World) (t u ty e:TypeId) (i:TypeInfo) (ht:P.underlying t=some (.slice e)) (hu:P.underlying u=some .string) (hi:P.info? e=some i) (hz:i.zero=some (.int .u8 0))
  (hsize:i.size=1) (hby:i.bytes=1) (v:Value) (n:Nat) (xs:List Value) (hown:w.ownsRowF 0 e 1 v n xs) (s:ByteArray) (hbytes:n + s.size≤140737488355328) :
  ∃ v' w',(Builtin.append_ #[t,u] ty #[v,.string s]).run P w = .ok v' w'∧w'.ownsRowF 0 e 1 v' (n + s.size) (xs++Lib.strCells s)∧w.grownBy w' v.ownBlock∧(∀ g,v'.ownBlock=some g→v.ownBlock=some g∨w.heap.size≤g):=by
 have h63:n + s.size≤maxLen:=by unfold maxLen;omega
 rcases hown.2 with ⟨rfl,rfl⟩ | ⟨g,cap,cur,fz,rfl,hbg,hg,hfz,hnc,hcm,hcs,htake⟩
 ·obtain ⟨v',w',h1,h2,h3,h4⟩:=Lib.run_append_own_string (P:=P) w w.heap.size t u ty e i ht hu hi hz hsize hby (.slice none 0 0) 0 xs ⟨hown.1,.inl ⟨rfl,rfl⟩⟩ s h63 hbytes (Nat.le_refl _)
  refine ⟨v',w',h1,n3 (World.ownsRowF_of h2),h3,fun g hg=>?_⟩
  rcases h2.2 with ⟨rfl,_⟩ | ⟨g',_,_,rfl,hb,_⟩
  ·cases hg
  ·cases hg;exact .inr hb
 ·by_cases hroom:n + s.size≤cap
  ·have hxl:xs.length=n:=by simpa using hown.1
   have hlen:(xs++Lib.strCells s).length=(n + s.size) * 1:=by rw [List.length_append,hxl,Lib.strCells_length,Nat.mul_one]
   have hcs':cur.size=cap:=by simpa using hcs
   have hr:=Lib.run_append_room_stringF (P:=P) w t u ty e i ht hu hi hsize g n cap cur fz hg (by simpa using hfz) s hroom (by omega)
   refine ⟨_,_,hr,⟨hlen,.inr ⟨g,cap,_,fz,rfl,hbg,setRow_heap w g cur _ e _ hg,by omega,hroom,hcm,?_,?_⟩⟩,⟨rfl,rfl,rfl,by simp,fun k _ hk=>setRow_other w g k _ (fun e=>hk (by simp [Value.ownBlock,e]))⟩,fun g' hg' => .inl hg'⟩
   ·simp only [List.size_toArray,List.length_append,List.length_take,List.length_drop,Array.length_toList,Lib.strCells_length]
    omega
   ·have ht':cur.toList.take n=xs:=by simpa using htake
    rw [ht',← hlen]
    exact List.take_left
  ·have hxl:xs.length=n:=by simpa using hown.1
   have hlen:(xs++Lib.strCells s).length=(n + s.size) * 1:=by rw [List.length_append,hxl,Lib.strCells_length,Nat.mul_one]
   have holds:∀ j u,xs[j]? = some u→w.cell? ((⟨g,0,none⟩:Addr).add j)=some u:=hown.cells (g:=g) rfl
   have hr:=Lib.run_append_grow_string (P:=P) w t u ty e i (.int .u8 0) ht hu hi hz ⟨g,0,none⟩ n cap xs (by rw [hsize];simpa using hxl) holds s (by omega) (by omega) (by rw [hby];exact growslice_fits (by omega) (by omega))
   have hge:=grownCap_ge w (n + s.size) cap e
   have hcm2:grownCap w (n + s.size) cap e≤maxLen:=grownCap_le_maxLen w (n + s.size) cap e h63
   refine ⟨_,_,hr,⟨hlen,.inr ⟨w.heap.size,_,_,(0,0),rfl,Nat.zero_le _,heap_alloc_new w.drew _,Nat.zero_le _,hge,hcm2,?_,?_⟩⟩,⟨rfl,rfl,rfl,by simp,fun k hk _=>by
    show (w.heap.push _)[k]? = _
    rw [Array.getElem?_push,if_neg (by omega)]⟩,fun g' hg'=>?_⟩
   ·have hz1:(Value.int IntKind.u8 0).cells.size=1:=rfl
    simp only [Array.size_append,List.size_toArray,size_zeroCells,hz1,hxl,Lib.strCells_length]
    omega
   ·simp only [Array.toList_append,List.append_assoc]
    rw [← List.append_assoc,← hlen]
    exact List.take_left
   ·cases hg';exact .inr (Nat.le_refl _)
theorem hS {w:World} {ops:Array Oper} {rest:List Oper} {o:Oper} {a:Act} {Q:Exit→Act→World→Prop} (hgd:o.guard=none) (sl x:Operand) (t u:TypeId)
  (ho:o.op = .call { callee := .builtin .append,args:=#[sl,x],argTypes:=#[t,u] })
  (e:TypeId) (i:TypeInfo) (ht:P.underlying t=some (.slice e)) (hu:P.underlying u=some .string) (hi:P.info? e=some i) (hz:i.zero=some (.int .u8 0))
  (hsize:i.size=1) (hby:i.bytes=1)
  (v:Value) (n:Nat) (xs:List Value) (hs:a.eval sl=v) (hown:w.ownsRowF 0 e 1 v n xs) (s:ByteArray) (hx:a.eval x = .string s)
  (hbytes:n + s.size≤140737488355328)
  (h:∀ v' w',w'.ownsRowF 0 e 1 v' (n + s.size) (xs++Lib.strCells s)→w.grownBy w' v.ownBlock→(∀ g,v'.ownBlock=some g→v.ownBlock=some g∨w.heap.size≤g)→wpList P ops Q rest (a.put o.dst v') w'):wpList P ops Q (o::rest) a w:=by
 refine wpList_plain hgd fun K hK=>?_
 obtain ⟨v',w',hr,h2,h3,h4⟩:=A0 (P:=P) w t u o.type e i ht hu hi hz hsize hby v n xs hown s hbytes
 unfold Oper.wp execOp
 simp only [ho,resolve,invoke,builtin,Sem.run_bind,Sem.run_pure,Result.andThen_ok,List.map_toArray,List.map_cons,List.map_nil,hs,hx,hr]
 exact hK _ _ (h v' w' h2 h3 h4)
abbrev e9 (b:Nat):Value := .pointer (some ⟨b,0,none⟩)
structure BAt (T e:TypeId) (b:Nat) (p u:Value) (bs:List Value) (w:World):Prop where
 cells:w.heap[b]? = some (.cells #[p,u] T (0,0))
 own:w.ownsRowF 0 e 1 u bs.length bs
 ne:u.ownBlock≠some b
theorem BAt.at {T e:TypeId} {b:Nat} {p u:Value} {bs:List Value} {w:World} (h:BAt T e b p u bs w):Lib.BuilderAtF T e 0 b p bs w:=⟨Nat.zero_le _,u,h.cells,h.own,h.ne⟩
theorem BAt.lt {T e:TypeId} {b:Nat} {p u:Value} {bs:List Value} {w:World} (h:BAt T e b p u bs w):b < w.heap.size:=(Array.getElem?_eq_some_iff.1 h.cells).1
theorem a8.grown {w w':World} {r:Option Nat} (h:w.grownBy w' r):a8 (fun k=>r=some k) w w':=⟨h.os,h.tape,h.output,h.size,fun b hb hn=>h.block b hb (fun e=>hn e.symm)⟩
theorem a8.setCell (w:World) (b o:Nat) (v:Value):a8 (fun k=>k=b) w (w.setCell ⟨b,o,none⟩ v) :=
 ⟨rfl,rfl,rfl,by simp [World.setCell],fun k _ hk=>Below.heap_setCell _ _ _ _ hk⟩
theorem aCf (L:Lays.n240 P ρ) (X:Builder.X72 P ρ) {b:Nat} {p u:Value} (hp:p = .pointer none∨p=e9 b) {bs:List Value} {w:World} (h:BAt (ρ.t 72) (ρ.t 5) b p u bs w) :
  Calls P (ρ.f 240) #[e9 b] w fun e w'=>e = .returned (.tuple #[])∧BAt (ρ.t 72) (ρ.t 5) b (e9 b) u bs w'∧a8 (fun k=>k=b) w w'∧w'.heap.size=w.heap.size:=by
 rcases hp with rfl | rfl
 ·refine (Any.Builder_copyCheck_fresh L X b w h.at.cell0 h.at.shape h.at.frozen0).mono ?_
  rintro e w' ⟨rfl,rfl⟩
  have hu:=h.at.used (e9 b)
  obtain ⟨_,v,h1,h2,h3⟩:=hu
  have hv:v=u:=by
   have hc:(w.setCell ⟨b,0,none⟩ (e9 b)).heap[b]? = some (.cells #[e9 b,u] (ρ.t 72) (0,0)):=by simp [World.setCell,Array.getElem?_modify,h.cells]
   rw [hc] at h1;simpa using h1.symm
  subst hv
  exact ⟨rfl,⟨h1,h2,h3⟩,a8.setCell _ _ _ _,by simp [World.setCell]⟩
 ·refine (Any.Builder_copyCheck_used L X b w h.at.cell0).mono ?_
  rintro e w' ⟨rfl,rfl⟩
  exact ⟨rfl,h,a8.refl _ _,rfl⟩
theorem aCF (L:Lays.n166 P ρ) (X:Builder.Extra P ρ) {b:Nat} {p u:Value} (hp:p = .pointer none∨p=e9 b) {bs:List Value} (s:ByteArray) {w:World} (h:BAt (ρ.t 72) (ρ.t 5) b p u bs w) (hlen:bs.length + s.size≤140737488355328) :
  Calls P (ρ.f 166) #[e9 b,.string s] w fun e w'=>e = .returned (.tuple #[.int .i64 s.size,.nilIface])∧∃ u',BAt (ρ.t 72) (ρ.t 5) b (e9 b) u' (bs++Lib.strCells s) w'∧a8 (fun k=>k=b∨u.ownBlock=some k) w w'∧(∀ g,u'.ownBlock=some g→u.ownBlock=some g∨w.heap.size≤g):=by
 obtain ⟨i0q,hi,hz0,hz1,hz2⟩:=info_parts X.infoByte
 have mixed:=L.mixed
 have t72:=L.t72;have a72:=L.a72;have z72:=L.z72;have v72:=L.v72;have u72:=run_underlying L.t72
 have t70:=L.t70;have a70:=L.a70;have z70:=L.z70;have v70:=L.v70;have u70:=run_underlying L.t70
 have t37:=L.t37;have a37:=L.a37;have z37:=L.z37;have v37:=L.v37;have u37:=run_underlying L.t37
 have t3:=L.t3;have a3:=L.a3;have z3:=L.z3;have v3:=L.v3;have u3:=run_underlying L.t3
 have t9:=L.t9;have a9:=L.a9;have z9:=L.z9;have v9:=L.v9;have u9q:=run_underlying L.t9
 have t4:=L.t4;have a4:=L.a4;have z4:=L.z4;have v4:=L.v4;have u4q:=run_underlying L.t4
 have t164:=L.t164;have a164:=L.a164;have z164:=L.z164;have v164:=L.v164;have u164:=run_underlying L.t164
 have t5:=X.t5;have a5:=X.a5;have z5:=X.z5;have v5:=X.v5;have u5:=run_underlying X.t5
 have e240:∀ args w,(callFunc (ρ.f 240) args).run P w = .ok (.enter (ρ.f 240) args) w:=enters_of L.f240 (by kernel_rfl) rfl
 go_enter L.f166,Body.n166_ntmps ρ
 go_wp2_with (go_at_fn (ρ.f 240);refine (aCf { L with } X.toX72 hp h).mono ?_)
 rintro e w1 ⟨rfl,h1,hf1,hsz⟩
 obtain ⟨hbk,hown,hne⟩:=h1
 have c0:w1.cell? ⟨b,0,none⟩=some (.pointer (some ⟨b,0,none⟩)):=by rw [Lib.cell_of_heap hbk];rfl
 have c1:w1.cell? ⟨b,1,none⟩=some u:=by rw [Lib.cell_of_heap hbk];rfl
 go_wp2_with (at_builtin;refine hS rfl _ _ (ρ.t 37) (ρ.t 9) rfl (ρ.t 5) i0q L.t37 L.t9 hi hz0 hz1 hz2 _ _ _ rfl hown s rfl ?c3 ?_)
 case c3=>omega
 intro v' w2 hown' hgrow hrow
 have hlt:b < w1.heap.size:=(Array.getElem?_eq_some_iff.1 hbk).1
 have hb2:w2.heap[b]? = some (.cells #[.pointer (some ⟨b,0,none⟩),u] (ρ.t 72) (0,0)):=by
  rw [hgrow.block b hlt (fun e=>hne e.symm)]
  exact hbk
 have d0:w2.cell? ⟨b,0,none⟩=some (.pointer (some ⟨b,0,none⟩)):=by rw [Lib.cell_of_heap hb2];rfl
 have d1:w2.cell? ⟨b,1,none⟩=some u:=by rw [Lib.cell_of_heap hb2];rfl
 have f1:w2.frozen? ⟨b,1,none⟩=false:=Lib.frozen_of_heap hb2 1
 have hne':v'.ownBlock≠some b:=fun e=>by
  rcases hrow b e with h | h
  ·exact hne h
  ·omega
 have hput:=Lib.BuilderAtF.put (T:=(ρ.t 72)) (e:=(ρ.t 5)) (B:=0) (Nat.zero_le _) hb2 (bs':=bs++Lib.strCells s) (v':=v') (by simpa [Lib.strCells_length] using hown') X.neB5
 have hcell:(w2.setCell ⟨b,1,none⟩ v').heap[b]? = some (.cells #[e9 b,v'] (ρ.t 72) (0,0)):=by simp [World.setCell,Array.getElem?_modify,hb2]
 have hown2:(w2.setCell ⟨b,1,none⟩ v').ownsRowF 0 (ρ.t 5) 1 v' (bs++Lib.strCells s).length (bs++Lib.strCells s):=by
  obtain ⟨_,v3,g1,g2,_⟩:=hput
  have:v3=v':=by rw [hcell] at g1;simpa using g1.symm
  subst this
  exact g2
 have hf:a8 (fun k=>k=b∨u.ownBlock=some k) w (w2.setCell ⟨b,1,none⟩ v') :=
  ((hf1.mono (fun _ _ h => .inl h)).trans ((a8.grown hgrow).mono (fun _ _ h => .inr h)) (fun _ _ h=>h)).trans ((a8.setCell w2 b 1 v').mono (fun _ _ h => .inl h)) (fun _ _ h=>h)
 have hrow':∀ g,v'.ownBlock=some g→u.ownBlock=some g∨w.heap.size≤g:=fun g hg=>by
  rcases hrow g hg with h | h
  ·exact .inl h
  ·exact .inr (by omega)
 obtain ⟨ao,n',cap,rfl⟩:∃ ao n' cap,v' = .slice ao n' cap:=by
  rcases hown'.2 with ⟨hv,_⟩ | ⟨g,cap,cur,fz,hv,_⟩
  ·exact ⟨_,_,_,hv⟩
  ·exact ⟨_,_,_,hv⟩
 go_wp2
 go_ret2
 exact ⟨rfl,_,⟨hcell,hown2,hne'⟩,hf,hrow'⟩
theorem a8.freeze (w:World) (g n:Nat):a8 (fun k=>k=g) w (w.freeze ⟨g,0,none⟩ n):=by
 refine ⟨?_,?_,?_,?_,fun k hk hn=>?_⟩
 ·unfold World.freeze;split <;> rfl
 ·unfold World.freeze;split <;> rfl
 ·unfold World.freeze;split <;> rfl
 ·unfold World.freeze
  split
  ·exact Nat.le_refl _
  ·simp
 ·unfold World.freeze
  split
  ·rfl
  ·show (w.heap.modify g _)[k]? = _
   rw [Array.getElem?_modify]
   simp [Ne.symm hn]
theorem aB8 (L:Lays.n169 P ρ) (X:Builder.Extra P ρ) {b:Nat} {p u:Value} {l:List UInt8} {w:World} (h:BAt (ρ.t 72) (ρ.t 5) b p u (Lib.byteCells l) w) (h0:l≠[]) :
  Calls P (ρ.f 169) #[e9 b] w fun e w'=>e = .returned (.string ⟨l.toArray⟩)∧a8 (fun k=>u.ownBlock=some k) w w':=by
 obtain ⟨hbk,hown,hne⟩:=h
 have hl0:l.length≠0:=by simpa using h0
 rw [Lib.byteCells_length] at hown
 obtain ⟨g,cap,cur,fz,rfl,hbg,hg,hfz,hnc,hcm,hcs,htake⟩:∃ g cap cur fz,u = .slice (some ⟨g,0,none⟩) l.length cap∧0≤g∧w.heap[g]? = some (.cells cur (ρ.t 5) fz)∧fz.2≤l.length * 1∧l.length≤cap∧cap≤maxLen∧cur.size=cap * 1∧cur.toList.take (l.length * 1)=Lib.byteCells l:=by
  rcases hown.2 with ⟨_,hz⟩ | ⟨g,cap,cur,fz,hv,r⟩
  ·exact absurd hz hl0
  ·exact ⟨g,cap,cur,fz,hv,r⟩
 have c1:w.drew.cell? ⟨b,1,none⟩=some (.slice (some ⟨g,0,none⟩) l.length cap):=by
  have:w.drew.heap[b]? = some (.cells #[p,.slice (some ⟨g,0,none⟩) l.length cap] (ρ.t 72) (0,0)):=hbk
  rw [Lib.cell_of_heap this];rfl
 have hSD:(Builtin.unsafeSliceData_ #[(ρ.t 37)] (ρ.t 127) #[.slice (some ⟨g,0,none⟩) l.length cap]).run P w.drew = .ok (.pointer (some ⟨g,0,none⟩)) w.drew :=
  Lib.run_unsafeSliceData_row _ _ _ _ _ _ (by omega)
 have hUS:(Builtin.unsafeString_ #[(ρ.t 127),(ρ.t 3)] (ρ.t 9) #[.pointer (some ⟨g,0,none⟩),.int .i64 l.length]).run P w.drew = .ok (.string ⟨l.toArray⟩) (w.drew.freeze ⟨g,0,none⟩ l.length):=by
  refine Lib.run_unsafeString_row w.drew (ρ.t 127) (ρ.t 3) (ρ.t 9) (ρ.t 5) L.t127 X.cellsByte g cur.size (by have hg':w.drew.heap[g]? = some (.cells cur (ρ.t 5) fz):=hg;simp [World.shape?,hg']) l h0 (by omega) (by unfold maxLen at hcm;omega) ?_
  intro j x hx
  have:=hown.cells (g:=g) rfl j (.int .u8 x.toNat) (by simp [Lib.byteCells,hx])
  exact this
 have hf:a8 (fun k=>(Value.slice (some ⟨g,0,none⟩) l.length cap).ownBlock=some k) w (w.drew.freeze ⟨g,0,none⟩ l.length) :=
  (a8.drew _ w).trans ((a8.freeze w.drew g l.length).mono (fun k _ h=>by subst h;rfl)) (fun _ _ h=>h)
 have mixed:=L.mixed
 have t72:=L.t72;have a72:=L.a72;have z72:=L.z72;have v72:=L.v72;have u72:=run_underlying L.t72
 have t70:=L.t70;have a70:=L.a70;have z70:=L.z70;have v70:=L.v70;have u70:=run_underlying L.t70
 have t37:=L.t37;have a37:=L.a37;have z37:=L.z37;have v37:=L.v37;have u37:=run_underlying L.t37
 have t127:=L.t127;have a127:=L.a127;have z127:=L.z127;have v127:=L.v127;have u127:=run_underlying L.t127
 have t3:=L.t3;have a3:=L.a3;have z3:=L.z3;have v3:=L.v3;have u3:=run_underlying L.t3
 have t9:=L.t9;have a9:=L.a9;have z9:=L.z9;have v9:=L.v9;have u9q:=run_underlying L.t9
 have t5:=X.t5;have a5:=X.a5;have z5:=X.z5;have v5:=X.v5;have u5:=run_underlying X.t5
 go_enter L.f169,Body.n169_ntmps ρ
 go_wp2
 go_region_o
 all_goals (go_wp2;go_ret;exact ⟨rfl,hf⟩)
theorem aBB (L:Lays.n169 P ρ) (X:Builder.Extra P ρ) {b:Nat} {p:Value} {w:World} (hbk:w.heap[b]? = some (.cells #[p,.slice none 0 0] (ρ.t 72) (0,0))) :
  Calls P (ρ.f 169) #[e9 b] w fun e w'=>e = .returned (.string ⟨#[]⟩)∧a8 (fun _=>False) w w':=by
 have hUS:=Any.unsafeString_none L X
 have c1:w.drew.cell? ⟨b,1,none⟩=some (.slice none 0 0):=by
  have:w.drew.heap[b]? = some (.cells #[p,.slice none 0 0] (ρ.t 72) (0,0)):=hbk
  rw [Lib.cell_of_heap this];rfl
 have hSD:(Builtin.unsafeSliceData_ #[(ρ.t 37)] (ρ.t 127) #[.slice none 0 0]).run P w.drew = .ok (.pointer none) w.drew:=rfl
 have mixed:=L.mixed
 have t72:=L.t72;have a72:=L.a72;have z72:=L.z72;have v72:=L.v72;have u72:=run_underlying L.t72
 have t70:=L.t70;have a70:=L.a70;have z70:=L.z70;have v70:=L.v70;have u70:=run_underlying L.t70
 have t37:=L.t37;have a37:=L.a37;have z37:=L.z37;have v37:=L.v37;have u37:=run_underlying L.t37
 have t127:=L.t127;have a127:=L.a127;have z127:=L.z127;have v127:=L.v127;have u127:=run_underlying L.t127
 have t3:=L.t3;have a3:=L.a3;have z3:=L.z3;have v3:=L.v3;have u3:=run_underlying L.t3
 have t9:=L.t9;have a9:=L.a9;have z9:=L.z9;have v9:=L.v9;have u9q:=run_underlying L.t9
 have t5:=X.t5;have a5:=X.a5;have z5:=X.z5;have v5:=X.v5;have u5:=run_underlying X.t5
 go_enter L.f169,Body.n169_ntmps ρ
 go_wp2
 go_region_o
 all_goals (go_wp2;go_ret;exact ⟨rfl,a8.drew _ w⟩)
end
section
variable {P:Program} {X:Nat→Prop} {ι:bZ} {σ:aA} {w:World} {M:Nat→Prop}
def aC4 (T e:TypeId) (l:List UInt8) (bs:List Nat):World→(Nat→Prop)→Value→Prop:=fun w _ v =>
 ∃ b p u,v=e9 b∧b ∈ bs∧(p = .pointer none∨p=e9 b)∧BAt T e b p u (Lib.byteCells l) w∧(∀ g,u.ownBlock=some g→g ∈ bs)∧(l=[]→u = .slice none 0 0)
abbrev j3 (T e:TypeId) (l:List UInt8) (bs:List Nat):aU := .deep (aC4 T e l bs) bs
theorem k3 {T e:TypeId} {l:List UInt8} {bs:List Nat}:ER (aC4 T e l bs) bs:=by
 rintro w w' M M' v ⟨b,p,u,h1,h2,h3,⟨c1,c2,c3⟩,h5,h6⟩ hb hf hM
 refine ⟨b,p,u,h1,h2,h3,⟨(hb b h2).trans c1,⟨c2.1,?_⟩,c3⟩,h5,h6⟩
 rcases c2.2 with h | ⟨g,cap,cur,fz,e1,e2,e3,e4⟩
 ·exact .inl h
 ·exact .inr ⟨g,cap,cur,fz,e1,e2,(hb g (h5 g (by rw [e1];rfl))).trans e3,e4⟩
theorem o2 {T e:TypeId} {f:FuncId} {l:List UInt8} {bs:List Nat} {xs:List DV} {r:DV} {O:List Nat→Option aU} (hb:j0 P f=true)
  (h:∀ (X:Nat→Prop) (ι:bZ) (w:World) (M:Nat→Prop) (b:Nat) (p u:Value) (vs:List Value),(p = .pointer none∨p=e9 b)→BAt T e b p u (Lib.byteCells l) w→(l=[]→u = .slice none 0 0)→cM ι w M xs vs →
   Calls P f (e9 b::vs).toArray w fun en w'=>∃ v bs',en = .returned v∧(∀ ι M,aX ι w' M r v)∧a8 (fun k=>k=b∨u.ownBlock=some k) w w'∧(∀ k ∈ bs',k=b∨u.ownBlock=some k∨w.heap.size≤k)∧(∀ k ∈ bs',k < w'.heap.size) ∧
    ∀ o,O bs'=some o→∃ T',o = .deep T' bs'∧ER T' bs'∧∀ M,T' w' M (e9 b)) :
  aB P f (.ptr 0 0::xs) [some (j3 T e l bs)] (fun r' s=>∃ bs':List Nat,True∧r'=r∧s=[O bs']):=by
 refine ⟨hb,fun X ι w vs hh hr=>?_⟩
 obtain ⟨a,vs,rfl⟩:∃ a t,vs=a::t:=by
  cases vs with
  | nil=>have:=hr.len;simp at this
  | cons a t=>exact ⟨a,t,rfl⟩
 obtain ⟨v0,hv0,hobj⟩:=hh.obj 0 (j3 T e l bs) rfl
 cases hobj with
 | deep _ _ _ hT _ hlt =>
 obtain ⟨b,p,u,rfl,hbm,hp,hat,hob,hnil⟩:=hT
 have ha:a=e9 b:=by
  have h0:=hr.get 0 _ a rfl rfl
  cases h0 with
  | ptr _ _ b' hb' =>
   rw [hv0] at hb'
   cases hb'
   rfl
 subst ha
 have hrest:cM ι w (bQ X ι [some (j3 T e l bs)]) xs vs:=⟨by have:=hr.len;simpa using this,fun i x y hx hy=>hr.get (i + 1) x y (by simpa using hx) (by simpa using hy)⟩
 refine (h X ι w _ b p u vs hp hat hnil hrest).mono ?_
 rintro en w' ⟨v,bs',rfl,hrv,hf,hbs,hlt',hO⟩
 have hown0:∀ k,k=b∨u.ownBlock=some k→g8 ι [some (j3 T e l bs)] k:=fun k hk=>⟨0,_,_,rfl,hv0,by
  rcases hk with rfl | hk
  ·exact hbm
  ·exact hob k hk⟩
 have hF:a8 (g8 ι [some (j3 T e l bs)]) w w':=hf.mono fun k _ hk=>hown0 k hk
 have hl1:∀ {id:Nat} {o:aU},aA.look [O bs'] id=some o→id=0∧O bs'=some o:=fun {id o} ho=>by
  cases id with
  | zero=>exact ⟨rfl,ho⟩
  | succ i=>simp [aA.look] at ho
 have hmu:∀ k,k < w.heap.size→g8 ι [O bs'] k→g8 ι [some (j3 T e l bs)] k:=by
  rintro k hk ⟨id,o,v1,g1,g2,g3⟩
  obtain ⟨rfl,g1⟩:=hl1 g1
  obtain ⟨T',rfl,_⟩:=hO o g1
  refine hown0 k ?_
  rcases hbs k g3 with h | h | h
  ·exact .inl h
  ·exact .inr h
  ·omega
 have hH:aQ P X ι [O bs'] w':=hh.change hF (fun _ _ h=>h) (fun id hid=>hh.fresh id hid) (fun id o ho=>by
   obtain ⟨rfl,g1⟩:=hl1 ho
   obtain ⟨T',rfl,k1,k2⟩:=hO o g1
   exact .inr ⟨_,hv0,.deep _ _ _ (k2 _) k1 hlt'⟩) hmu (fun id id' o o' v v' b g1 g2 _ _ _ _=>by
   rw [(hl1 g1).1,(hl1 g2).1])
 exact ⟨v,r,[O bs'],ι,rfl,⟨bs',trivial,rfl,rfl⟩,⟨⟨fun _ _ h=>h,hF,hH,hmu⟩,fun _ _=>rfl,Nat.le_refl _⟩,hrv _ _⟩
theorem aCL {nt id:Nat} {T el ty:TypeId} {pos:String} {after:Array Edge} {dst:Option Nat} {rest:List Oper} {e:aW} {Q:Exit→aW→aA→Prop}
  (hz:∀ w,(zeroValue T).run P w = .ok (.agg #[.pointer none,.slice none 0 0]) w) (hops:((⟨dst,.alloc T,ty,pos,after,none⟩:Oper)::rest).all (i0 nt)=true)
  (h:∀ bs,WS P nt ((⟨dst,.alloc T,ty,pos,after,none⟩:Oper)::rest).toArray rest (e.put dst (.ptr σ.length 0)) (σ++[some (j3 T el [] bs)]) (Q .normal)) :
  AC P nt (.region id ((⟨dst,.alloc T,ty,pos,after,none⟩:Oper)::rest).toArray false) e σ Q:=⟨fun X w0 ι0 σ0 ι a w hst=>by
 refine wp_region ?_
 rw [List.range_eq_range']
 have hall:∀ (j:Nat) o t,((⟨dst,.alloc T,ty,pos,after,none⟩:Oper)::rest).toArray[j]? = some o→o.dst=some t→t < nt:=fun j o t hj ht=>by
  have:=(List.all_eq_true.1 hops) o (by simpa using Array.mem_of_getElem? hj)
  simpa [i0,ht] using this
 show wpOps _ _ _ (List.range' 0 (rest.length + 1)) a w
 rw [List.range'_succ]
 simp only [wpOps]
 have h0:((⟨dst,.alloc T,ty,pos,after,none⟩:Oper)::rest).toArray[0]? = some ⟨dst,.alloc T,ty,pos,after,none⟩:=rfl
 simp only [h0]
 have hw:Region.wanted (⟨dst,.alloc T,ty,pos,after,none⟩:Oper) (yielded ((⟨dst,.alloc T,ty,pos,after,none⟩:Oper)::rest).toArray a.tmps)=true:=rfl
 rw [hw]
 simp only [if_true]
 refine .inl ?_
 let w':World:={ w with heap:=w.heap.push (.cells #[.pointer none,.slice none 0 0] T) }
 let v':Value:=e9 w.heap.size
 let bs:List Nat:=[w.heap.size]
 have hrun:(execOp a.eval (⟨dst,.alloc T,ty,pos,after,none⟩:Oper)).run P w = .ok (.value v') w':=by
  simp only [execOp,Instr.alloc,Sem.run_bind,hz w,Result.andThen_ok]
  rfl
 have hh:=hst.comes.heap
 have hn:=hh.fresh σ.length (Nat.le_refl _)
 have hblk:w'.heap[w.heap.size]? = some (.cells #[.pointer none,.slice none 0 0] T (0,0)):=rJ w _
 obtain ⟨g1,g2,g3⟩:=hh.alloc (nid:=σ.length) (o:=j3 T el [] bs) (obj := .cells #[.pointer none,.slice none 0 0] T) (v:=v') hn (Nat.le_refl _) (fun b hb=>by simpa [kV,bs] using hb)
  (.deep _ _ _ ⟨w.heap.size,.pointer none,.slice none 0 0,rfl,by simp [bs],.inl rfl,⟨hblk,⟨rfl,.inl ⟨rfl,rfl⟩⟩,by simp [Value.ownBlock]⟩,fun g hg=>by simp [Value.ownBlock] at hg,fun _=>rfl⟩ k3 (fun b hb=>by
   have:b=w.heap.size:=by simpa [bs] using hb
   subst this
   simp))
 have hput:σ.put σ.length (some (j3 T el [] bs))=σ++[some (j3 T el [] bs)]:=by rw [aA.put_eq,if_neg (Nat.lt_irrefl _)]
 rw [hput] at g1 g3
 have hst':St P X nt w0 ι0 σ0 (ι.set σ.length v') (e.put dst (.ptr σ.length 0)) (σ++[some (j3 T el [] bs)]) (a.put dst v') w':=by
  refine (hst.step ⟨⟨g2,a8.push _ w _,g1,g3⟩,fun i hi=>?_,by simp⟩).put (fun t ht=>hall 0 _ t h0 ht) (.ptr _ _ _ (by simp [bZ.set,v']))
  simp [bZ.set,Nat.ne_of_lt hi]
 unfold Oper.wp
 rw [hrun]
 show wpOps _ _ _ _ _ _
 have:=rM (P:=P) (ops:=((⟨dst,.alloc T,ty,pos,after,none⟩:Oper)::rest).toArray) (K:=Q .normal) (Q:=fun ex a' w'=>∃ ι' e' σ',Q ex e' σ'∧St P X nt w0 ι0 σ0 ι' e' σ' a' w') hall (fun e' σ' ι' a' w' hk hst'=>⟨ι',e',σ',hk,hst'⟩) rest 1 _ _ _ _ _ (fun j=>by simp [Nat.add_comm 1]) hst' (h bs).h
 simpa using this⟩
end
end Go.Ab
