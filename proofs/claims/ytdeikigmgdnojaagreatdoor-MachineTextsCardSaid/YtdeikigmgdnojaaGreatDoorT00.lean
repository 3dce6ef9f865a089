import Derived.Below
import Derived.Orders
import GoSem.ClaimData
import Derived.Laws.Sem
import Derived.Laws.CopyRow
import Derived.Laws.Wrap64
import Derived.Laws.Strings
import Derived.Laws.StructEq
/- A part of the proof of one law. -/
set_option maxRecDepth 100000
set_option maxHeartbeats 8000000
set_option linter.unusedVariables false
set_option linter.unusedSimpArgs false
namespace Go.Ab
def gY:Nat:=140737488355328
def pU:Value→Bool
 | .int k n=>decide (k.min≤n) && decide (n≤k.max)
 | .string s=>decide (s.size≤maxLen)
 | .agg _=>false
 | .tuple _=>false
 | _=>true
inductive aR where
 | sc (v:Value)
 | lst (es:List (List aR))
 | mp (es:List (Value × Bool × List aR))
 deriving Inhabited
inductive DV where
 | d (x:aR)
 | nils
 | ptr (id off:Nat)
 | iptr (cs:List aR) (off:Nat)
 | eptr (id i sz off:Nat)
 | arr (id:Nat)
 | mp (id:Nat)
 | fn (f:Fn) (first cap:List DV)
 | agg (cs:List DV)
 | tup (vs:List DV)
 | ifc (t:TypeId) (x:DV)
 deriving Inhabited
def uE (b:Bool) (n:Nat) (v:Value):Bool :=
 match b,v with
 | true,.agg vs=>vs.size == n
 | true,_=>false
 | false,_=>n == 1
def wM (b:Bool) (v:Value) (j:Nat):Option Value :=
 match b,v with
 | true,.agg vs=>vs[j]?
 | true,_=>none
 | false,v=>if j=0 then some v else none
inductive dL (w:World) (M:Nat→Prop):aR→Value→Prop
 | sc (v:Value) (h:pU v=true):dL w M (.sc v) v
 | emp (A:Option Addr) (c:Nat):dL w M (.lst []) (.slice A 0 c)
 | lst (b o n c size:Nat) (es:List (List aR)) (vs:Nat→Nat→Value) (hn:es.length=n) (hc:n≤c) (hm:n≤gY) (hb:b < w.heap.size) (hM:¬ M b)
   (hs:∀ (i:Nat) (cs:List aR),es[i]? = some cs→cs.length=size)
   (hcell:∀ (i j:Nat) (cs:List aR) (x:aR),es[i]? = some cs→cs[j]? = some x→w.cell? ⟨b,o + (i * size + j),none⟩=some (vs i j))
   (hrel:∀ (i j:Nat) (cs:List aR) (x:aR),es[i]? = some cs→cs[j]? = some x→dL w M x (vs i j)):dL w M (.lst es) (.slice (some ⟨b,o,none⟩) n c)
 | mp (r:Nat) (ms:Array MapEntry) (clock:Nat) (es:List (Value × Bool × List aR)) (hM:¬ M r) (hh:w.heap[r]? = some (.map ms clock)) (hl:ms.size=es.length)
   (hk:∀ (i:Nat) (m:MapEntry) (k:Value) (b:Bool) (cs:List aR),ms[i]? = some m→es[i]? = some (k,b,cs)→m.key=k∧uE b cs.length m.val=true)
   (hrel:∀ (i:Nat) (m:MapEntry) (k:Value) (b:Bool) (cs:List aR),ms[i]? = some m→es[i]? = some (k,b,cs)→∀ (j:Nat) (x:aR) (v:Value),cs[j]? = some x→wM b m.val j=some v→dL w M x v):dL w M (.mp es) (.map (some r))
abbrev bZ:=Nat→Option Value
inductive aX (ι:bZ) (w:World) (M:Nat→Prop):DV→Value→Prop
 | d {x:aR} {v:Value} (h:dL w M x v):aX ι w M (.d x) v
 | nils (A:Option Addr):aX ι w M .nils (.slice A 0 0)
 | ptr (id off b:Nat) (h:ι id=some (.pointer (some ⟨b,0,none⟩))):aX ι w M (.ptr id off) (.pointer (some ⟨b,off,none⟩))
 | iptr (cs:List aR) (off b o:Nat) (vs:Nat→Value) (hM:¬ M b) (hb:b < w.heap.size) (hcell:∀ (j:Nat) (x:aR),cs[j]? = some x→w.cell? ⟨b,o + j,none⟩=some (vs j))
   (hrel:∀ (j:Nat) (x:aR),cs[j]? = some x→dL w M x (vs j)):aX ι w M (.iptr cs off) (.pointer (some ⟨b,o + off,none⟩))
 | eptr (id i sz off b o n c:Nat) (h:ι id=some (.slice (some ⟨b,o,none⟩) n c)):aX ι w M (.eptr id i sz off) (.pointer (some ⟨b,o + (i * sz + off),none⟩))
 | arr (id:Nat) (v:Value) (h:ι id=some v) (hv:∃ A n c,v = .slice A n c):aX ι w M (.arr id) v
 | mp (id:Nat) (v:Value) (h:ι id=some v) (hv:∃ r,v = .map (some r)):aX ι w M (.mp id) v
 | fn (f:Fn) (first cap:List DV) (fi ca:Array Value) (h1:fi.size=first.length) (h2:ca.size=cap.length)
   (hf:∀ (i:Nat) x y,first[i]? = some x→fi[i]? = some y→aX ι w M x y) (hc:∀ (i:Nat) x y,cap[i]? = some x→ca[i]? = some y→aX ι w M x y) :
   aX ι w M (.fn f first cap) (.func f fi ca)
 | agg (cs:List DV) (vs:Array Value) (hl:vs.size=cs.length) (h:∀ (i:Nat) x y,cs[i]? = some x→vs[i]? = some y→aX ι w M x y):aX ι w M (.agg cs) (.agg vs)
 | tup (cs:List DV) (vs:Array Value) (hl:vs.size=cs.length) (h:∀ (i:Nat) x y,cs[i]? = some x→vs[i]? = some y→aX ι w M x y):aX ι w M (.tup cs) (.tuple vs)
 | ifc (t:TypeId) (x:DV) (v:Value) (h:aX ι w M x v):aX ι w M (.ifc t x) (.iface t v)
inductive aU where
 | box (ty:TypeId) (cells:List DV)
 | arr (elem:TypeId) (es:List (List DV))
 | map (es:List (Value × DV))
 | deep (T:World→(Nat→Prop)→Value→Prop) (bs:List Nat)
 deriving Inhabited
def f7:DV→Bool
 | .agg _=>false
 | .tup _=>false
 | _=>true
abbrev aA:=List (Option aU)
def aA.look (σ:aA) (id:Nat):Option aU:=(σ[id]?).bind fun x=>x
def cY:Value→Option Nat
 | .pointer (some a)=>some a.block
 | .slice (some a) _ (_ + 1)=>some a.block
 | .map (some r)=>some r
 | _=>none
def kV:aU→Value→Nat→Prop
 | .deep _ bs,_,b=>b ∈ bs
 | _,v,b=>cY v=some b
def g8 (ι:bZ) (σ:aA) (b:Nat):Prop:=∃ id o v,σ.look id=some o∧ι id=some v∧kV o v b
def bQ (X:Nat→Prop) (ι:bZ) (σ:aA) (b:Nat):Prop:=X b∨g8 ι σ b
theorem bQ.of_own {X:Nat→Prop} {ι ι':bZ} {σ σ':aA} {n:Nat} (h:∀ b,b < n→g8 ι' σ' b→g8 ι σ b):∀ b,b < n→bQ X ι' σ' b→bQ X ι σ b:=fun b hb hm=>hm.imp (fun h=>h) (h b hb)
structure a8 (M:Nat→Prop) (w w':World):Prop where
 os:w'.os=w.os
 tape:w'.tape=w.tape
 output:w'.output=w.output
 size:w.heap.size≤w'.heap.size
 block:∀ b,b < w.heap.size→¬ M b→w'.heap[b]? = w.heap[b]?
def ER (T:World→(Nat→Prop)→Value→Prop) (bs:List Nat):Prop :=
 ∀ w w' M M' v,T w M v→(∀ b ∈ bs,w'.heap[b]? = w.heap[b]?)→a8 M w w'→(∀ b,b < w.heap.size→M' b→M b)→T w' M' v
inductive bE (P:Program) (ι:bZ) (w:World) (M:Nat→Prop):Value→aU→Prop
 | box (ty:TypeId) (cells:List DV) (b:Nat) (cs:Array Value) (hb:w.heap[b]? = some (.cells cs ty (0,0))) (hl:cs.size=cells.length)
   (h:∀ (j:Nat) x y,cells[j]? = some x→cs[j]? = some y→aX ι w M x y) (h1:∀ (j:Nat) y,cs[j]? = some y→y.cells=#[y]):bE P ι w M (.pointer (some ⟨b,0,none⟩)) (.box ty cells)
 | nil (elem:TypeId) (A:Option Addr):bE P ι w M (.slice A 0 0) (.arr elem [])
 | arr (elem:TypeId) (es:List (List DV)) (b o c:Nat) (cs:Array Value) (hb:w.heap[b]? = some (.cells cs elem (0,0))) (hc:o + c * P.cellsOf elem≤cs.size) (hn:es.length≤c) (hm:es.length≤gY)
   (hs:∀ e ∈ es,e.length=P.cellsOf elem) (hcl:∀ e ∈ es,∀ x ∈ e,f7 x=true)
   (h:∀ (i j:Nat) (e:List DV) (x:DV) (y:Value),es[i]? = some e→e[j]? = some x→cs[o + (i * P.cellsOf elem + j)]? = some y→aX ι w M x y):bE P ι w M (.slice (some ⟨b,o,none⟩) es.length c) (.arr elem es)
 | map (es:List (Value × DV)) (r:Nat) (ms:Array MapEntry) (clock:Nat) (hh:w.heap[r]? = some (.map ms clock)) (hl:ms.size=es.length)
   (hk:∀ (i:Nat) (m:MapEntry) (k:Value) (d:DV),ms[i]? = some m→es[i]? = some (k,d)→m.key=k)
   (h:∀ (i:Nat) (m:MapEntry) (k:Value) (d:DV),ms[i]? = some m→es[i]? = some (k,d)→aX ι w M d m.val):bE P ι w M (.map (some r)) (.map es)
 | deep (T:World→(Nat→Prop)→Value→Prop) (bs:List Nat) (v:Value) (h:T w M v) (hs:ER T bs) (hlt:∀ b ∈ bs,b < w.heap.size):bE P ι w M v (.deep T bs)
def ST (l:List Nat):List Value:=l.map fun (n:Nat)=>Value.int .u8 (Int.ofNat n)
def TX:List (String × List Value):=[
 ("strings.asciiSpace",ST ((List.range 256).map fun n=>if (9≤n∧n≤13)∨n=32 then 1 else 0)),
 ("unicode/utf8.first",ST ((List.range 256).map fun n=>if n < 128 then 240 else if n < 194 then 241 else if n < 224 then 2 else if n=224 then 19 else if n=237 then 35 else if n < 240 then 3 else if n=240 then 52 else if n < 244 then 4 else if n=244 then 68 else 241)),
 ("unicode/utf8.acceptRanges",ST [128,191,160,191,128,159,144,191,128,143,0,0,0,0,0,0,0,0,0,0,0,0,0,0,0,0,0,0,0,0,0,0])]
def QC (s:String):List (String × List Value)→Option (List Value)
 | []=>none
 | (k,l)::r=>if k=s then some l else QC s r
def nU (P:Program) (g:Nat):Option (List Value):=(P.globals[g]?).bind fun v=>QC v.name TX
def wU (P:Program) (g:Nat):Bool:=match P.globals[g]? with
 | some v=>v.name == "internal/bytealg.MaxLen"
 | none=>false
def isPow (P:Program) (g:Nat):Bool:=match P.globals[g]? with
 | some v=>v.name == "internal/strconv.uint64pow10"
 | none=>false
def powTab:Array Value:=((List.range 20).map fun i=>Value.int .u64 ((10 ^ i:Nat):Int)).toArray
def JG (P:Program) (g:Nat):Bool:=(nU P g).isSome || wU P g || isPow P g
structure P4 (P:Program) (w:World) (g:Nat):Prop where
 tab:∀ vs,nU P g=some vs→∀ (j:Nat) v,vs[j]? = some v→pU v=true∧w.cell? ⟨g,j,none⟩=some v
 num:wU P g=true→∃ m,w.cell? ⟨g,0,none⟩=some (.int .i64 m)
 pow:isPow P g=true→∃ t fz,w.heap[g]? = some (.cells powTab t fz)
structure aQ (P:Program) (X:Nat→Prop) (ι:bZ) (σ:aA) (w:World):Prop where
 fresh:∀ id,σ.length≤id→ι id=none
 obj:∀ id o,σ.look id=some o→∃ v,ι id=some v∧bE P ι w (bQ X ι σ) v o
 inj:∀ id id' o o' v v' b,σ.look id=some o→σ.look id'=some o'→ι id=some v→ι id'=some v'→kV o v b→kV o' v' b→id=id'
 xlt:∀ b,X b→b < w.heap.size
 apart:∀ b,g8 ι σ b→¬ X b
 glob:∀ g,JG P g=true→g < w.heap.size∧¬ bQ X ι σ g∧P4 P w g
theorem a8.refl (M:Nat→Prop) (w:World):a8 M w w:=⟨rfl,rfl,rfl,Nat.le_refl _,fun _ _ _=>rfl⟩
theorem a8.trans {M M':Nat→Prop} {a b c:World} (h:a8 M a b) (k:a8 M' b c) (hM:∀ x,x < a.heap.size→M' x→M x):a8 M a c :=
 ⟨k.os.trans h.os,k.tape.trans h.tape,k.output.trans h.output,Nat.le_trans h.size k.size,fun x hx hn =>
  (k.block x (Nat.lt_of_lt_of_le hx h.size) (fun hm=>hn (hM x hx hm))).trans (h.block x hx hn)⟩
theorem a8.mono {M M':Nat→Prop} {w w':World} (h:a8 M w w') (hM:∀ x,x < w.heap.size→M x→M' x):a8 M' w w' :=
 ⟨h.os,h.tape,h.output,h.size,fun x hx hn=>h.block x hx fun hm=>hn (hM x hx hm)⟩
theorem a8.drew (M:Nat→Prop) (w:World):a8 M w { w with drawn:=w.drawn + 1 }:=⟨rfl,rfl,rfl,Nat.le_refl _,fun _ _ _=>rfl⟩
theorem sZ {w:World} {a:Addr} {v:Value} (h:w.cell? a=some v):a.block < w.heap.size:=by
 unfold World.cell? at h
 split at h
 ·rename_i hb;exact (Array.getElem?_eq_some_iff.1 hb).1
 ·cases h
theorem lN {w w':World} {a:Addr} (h:w'.heap[a.block]? = w.heap[a.block]?):w'.cell? a=w.cell? a:=by
 unfold World.cell?;rw [h]
theorem P4.mono {P:Program} {w w':World} {g:Nat} (h:P4 P w g) (hb:w'.heap[g]? = w.heap[g]?):P4 P w' g :=
 ⟨fun vs hg j v hv=>⟨(h.tab vs hg j v hv).1,(lN hb).trans (h.tab vs hg j v hv).2⟩,fun hn=>by
  obtain ⟨m,hm⟩:=h.num hn
  exact ⟨m,(lN hb).trans hm⟩,fun hn=>by
  obtain ⟨t,fz,hm⟩:=h.pow hn
  exact ⟨t,fz,hb.trans hm⟩⟩
theorem dL.mono {w w':World} {M M':Nat→Prop} (hf:a8 M w w') (hM:∀ b,b < w.heap.size→M' b→M b) {x:aR} {v:Value} (h:dL w M x v):dL w' M' x v:=by
 induction h with
 | sc v h=>exact .sc v h
 | emp A c=>exact .emp A c
 | lst b o n c size es vs hn hc hm hb hnM hs hcell hrel ih =>
  refine .lst b o n c size es vs hn hc hm (Nat.lt_of_lt_of_le hb hf.size) (fun h=>hnM (hM _ hb h)) hs (fun i j cs x h1 h2=>?_) ih
  exact (lN (a:=⟨b,o + (i * size + j),none⟩) (hf.block b hb hnM)).trans (hcell i j cs x h1 h2)
 | mp r ms clock es hnM hh hl hk hrel ih =>
  have hr:r < w.heap.size:=(Array.getElem?_eq_some_iff.1 hh).1
  exact .mp r ms clock es (fun h=>hnM (hM _ hr h)) ((hf.block r hr hnM).trans hh) hl hk ih
theorem aX.mono {ι ι':bZ} {w w':World} {M M':Nat→Prop} (hι:∀ id v,ι id=some v→ι' id=some v) (hf:a8 M w w') (hM:∀ b,b < w.heap.size→M' b→M b) {x:DV} {v:Value}
  (h:aX ι w M x v):aX ι' w' M' x v:=by
 induction h with
 | d h=>exact .d (h.mono hf hM)
 | nils A=>exact .nils A
 | ptr id off b h=>exact .ptr id off b (hι _ _ h)
 | iptr cs off b o vs hnM hb hcell hrel =>
  exact .iptr cs off b o vs (fun h=>hnM (hM _ hb h)) (Nat.lt_of_lt_of_le hb hf.size) (fun j x h=>(lN (a:=⟨b,o + j,none⟩) (hf.block b hb hnM)).trans (hcell j x h)) (fun j x h=>(hrel j x h).mono hf hM)
 | eptr id i sz off b o n c h=>exact .eptr id i sz off b o n c (hι _ _ h)
 | arr id v h hv=>exact .arr id v (hι _ _ h) hv
 | mp id v h hv=>exact .mp id v (hι _ _ h) hv
 | fn f first cap fi ca h1 h2 hf hc ih1 ih2=>exact .fn f first cap fi ca h1 h2 ih1 ih2
 | agg cs vs hl h ih=>exact .agg cs vs hl ih
 | tup cs vs hl h ih=>exact .tup cs vs hl ih
 | ifc t x v h ih=>exact .ifc t x v ih
theorem bE.mono {P:Program} {ι ι':bZ} {w w':World} {M M':Nat→Prop} (hι:∀ id v,ι id=some v→ι' id=some v) (hf:a8 M w w') (hM:∀ b,b < w.heap.size→M' b→M b) {o:aU} {v:Value}
  (h:bE P ι w M v o) (hb:∀ b,kV o v b→w'.heap[b]? = w.heap[b]?):bE P ι' w' M' v o:=by
 cases h with
 | box ty cells b cs h1 hl h h2=>exact .box ty cells b cs ((hb b rfl).trans h1) hl (fun j x y hx hy=>(h j x y hx hy).mono hι hf hM) h2
 | nil elem A=>exact .nil elem A
 | arr elem es b o c cs h1 hc hn hm hs hcl h =>
  have hbb:w'.heap[b]? = some (.cells cs elem (0,0))∨c=0:=by
   cases c with
   | zero=>exact .inr rfl
   | succ c=>exact .inl ((hb b rfl).trans h1)
  rcases hbb with hbb | rfl
  ·exact .arr elem es b o c cs hbb hc hn hm hs hcl (fun i j e x y h1 h2 h3=>(h i j e x y h1 h2 h3).mono hι hf hM)
  ·obtain rfl:es=[]:=List.eq_nil_of_length_eq_zero (by omega)
   exact .nil elem (some ⟨b,o,none⟩)
 | map es r ms clock hh hl hk h=>exact .map es r ms clock ((hb r rfl).trans hh) hl hk (fun i m k d h1 h2=>(h i m k d h1 h2).mono hι hf hM)
 | deep T bs v h hs hlt=>exact .deep T bs v (hs _ _ _ _ _ h hb hf hM) hs (fun b h=>Nat.lt_of_lt_of_le (hlt b h) hf.size)
theorem bE.block_lt {P:Program} {ι:bZ} {w:World} {M:Nat→Prop} {o:aU} {v:Value} (h:bE P ι w M v o) {b:Nat} (hb:kV o v b):b < w.heap.size:=by
 cases h with
 | box ty cells b' cs h1 hl h h2=>simp [kV,cY] at hb;subst hb;exact (Array.getElem?_eq_some_iff.1 h1).1
 | nil elem A=>cases A <;> simp [kV,cY] at hb
 | arr elem es b' o c cs h1 hc hn hm hs hcl h =>
  cases c with
  | zero=>simp [kV,cY] at hb
  | succ c=>simp [kV,cY] at hb;subst hb;exact (Array.getElem?_eq_some_iff.1 h1).1
 | map es r ms clock hh hl hk h=>simp [kV,cY] at hb;subst hb;exact (Array.getElem?_eq_some_iff.1 hh).1
 | deep T bs v h hs hlt=>exact hlt b hb
abbrev aW:=List (Nat × DV)
def aW.get:aW→Nat→Option DV
 | [],_=>none
 | (k,d)::e,t=>if k=t then some d else aW.get e t
def aW.put (e:aW):Option Nat→DV→aW
 | some t,d=>(t,d)::e
 | none,_=>e
def VH (v:Value):Option DV :=
 match v with
 | .slice none 0 0=>some .nils
 | .func f fi ca=>if fi.size=0∧ca.size=0 then some (.fn f [] []) else none
 | v=>if pU v then some (.d (.sc v)) else none
def vz (v:Value):Option DV :=
 match v with
 | .agg cs=>(cs.toList.mapM VH).map .agg
 | v=>VH v
def aW.ev (e:aW):Operand→Option DV
 | .tmp t=>e.get t
 | .const v=>vz v
 | .global g=>some (.d (.sc (.pointer (some ⟨g,0,none⟩))))
 | .func f=>some (.fn (.func f) [] [])
def i7 (P:Program) (t:TypeId):Option Bool :=
 match P.underlying t,P.info? t with
 | some (.struct _),some _=>some true
 | some (.array _ _),some _=>some true
 | some _,some _=>some false
 | _,_=>none
def lV (P:Program) (s:TypeId) (f:Nat):Option Nat :=
 match P.underlying s with
 | some (.struct fs) =>
  match fs[f]? with
  | some g=>match P.info? g.type with
   | some i=>if i.size=0 then none else some g.offset
   | none=>none
  | none=>none
 | _=>none
def dU (P:Program) (t:TypeId):Option (TypeId × Nat) :=
 match P.underlying t with
 | some (.slice e)=>(P.info? e).map fun i=>(e,i.size)
 | _=>none
def lX (P:Program) (t:TypeId) (cells:List DV):Option DV :=
 match i7 P t with
 | some true=>if P.cellsOf t≤cells.length then some (.agg (cells.take (P.cellsOf t))) else none
 | some false=>cells.head?
 | none=>none
def bt (s:ByteArray) (i:Nat):Int:=((s.data.getD i 0).toNat:Int)
def xI (op:BinOp) (k:IntKind) (a b:Int):Option Value :=
 match op with
 | .add=>some (.int k (k.wrap (a + b)))
 | .sub=>some (.int k (k.wrap (a - b)))
 | .mul=>some (.int k (k.wrap (a * b)))
 | .quo=>if b=0 then none else some (.int k (k.wrap (a.tdiv b)))
 | .rem=>if b=0 then none else some (.int k (a.tmod b))
 | .and=>some (.int k (k.wrap (BitVec.ofInt k.bits a &&& BitVec.ofInt k.bits b).toNat))
 | .or=>some (.int k (k.wrap (BitVec.ofInt k.bits a ||| BitVec.ofInt k.bits b).toNat))
 | .xor=>some (.int k (k.wrap (BitVec.ofInt k.bits a ^^^ BitVec.ofInt k.bits b).toNat))
 | .andNot=>some (.int k (k.wrap (BitVec.ofInt k.bits a &&& ~~~ BitVec.ofInt k.bits b).toNat))
 | .eql=>some (.bool (decide (a=b)))
 | .neq=>some (.bool (decide (a≠b)))
 | .lss=>some (.bool (decide (a < b)))
 | .leq=>some (.bool (decide (a≤b)))
 | .gtr=>some (.bool (decide (a > b)))
 | .geq=>some (.bool (decide (a≥b)))
 | _=>none
def lR (a b:ByteArray):Bool:=Op.bytesLess a.toList b.toList
def AI (op:BinOp) (a b:ByteArray):Option Value :=
 match op with
 | .add=>if a.size + b.size≤9223372036854775807 then some (.string (a++b)) else none
 | .eql=>some (.bool (decide (a=b)))
 | .neq=>some (.bool (decide (a≠b)))
 | .lss=>some (.bool (lR a b))
 | .leq=>some (.bool (lR a b || decide (a=b)))
 | .gtr=>some (.bool (!(lR a b || decide (a=b))))
 | .geq=>some (.bool (!(lR a b)))
 | _=>none
def p9 (op:BinOp) (x y:Value):Option Value :=
 match x,y with
 | .int k a,.int k' b =>
  if op = .shl then (if b < 0 then none else some (.int k (k.wrap (a * 2 ^ (min b.toNat k.bits)))))
  else if op = .shr then (if b < 0 then none else some (.int k (a.fdiv (2 ^ (min b.toNat k.bits)))))
  else if k=k' then xI op k a b else none
 | .string a,.string b=>AI op a b
 | _,_=>none
def CN (P:Program) (t:TypeId) (x y:Value):Option Bool :=
 match P.underlying t,x,y with
 | some .bool,.bool a,.bool b=>some (a == b)
 | some (.int _),.int k a,.int k' b=>if k=k' then some (decide (a=b)) else none
 | some .string,.string a,.string b=>some (decide (a=b))
 | _,_,_=>none
def eqFields (P:Program) (xs ys:List DV):List Field→Option Bool
 | []=>some true
 | f::rest =>
  match xs[f.offset]?,ys[f.offset]? with
  | some (.d (.sc a)),some (.d (.sc b)) =>
   if f.name = "_" then none else
   match CN P f.type a b,eqFields P xs ys rest with
   | some p,some q=>some (p && q)
   | _,_=>none
  | _,_=>none
def A3 (P:Program) (t:TypeId) (x y:DV):Option Bool :=
 match x,y with
 | .d (.sc a),.d (.sc b)=>CN P t a b
 | .agg xs,.agg ys =>
  match P.underlying t with
  | some (.struct fs)=>if P.stoodInHeld t || P.eqGuardType P.depth t then none else eqFields P xs ys fs.toList
  | _=>none
 | _,_=>none
def w4 (P:Program) (xs ys:List DV):List Field→Option Bool
 | []=>some true
 | f::rest =>
  if f.name = "_" then none else
  match lX P f.type (xs.drop f.offset),lX P f.type (ys.drop f.offset),w4 P xs ys rest with
  | some a,some b,some q=>(A3 P f.type a b).map fun p=>p && q
  | _,_,_=>none
def KU (P:Program) (t:TypeId) (xs ys:List DV):Option Bool :=
 match A3 P t (.agg xs) (.agg ys) with
 | some p=>some p
 | none=>match P.underlying t with
  | some (.struct fs)=>if P.stoodInHeld t || P.eqGuardType P.depth t then none else w4 P xs ys fs.toList
  | _=>none
theorem LZ {P:Program} {t:TypeId} {xs ys:List DV} {p:Bool} (h:A3 P t (.agg xs) (.agg ys)=some p):KU P t xs ys=some p:=by unfold KU;rw [h]
def wW (P:Program) (t:TypeId):Option (Nat × TypeId × Nat) :=
 match P.underlying t with
 | some (.array n e)=>(P.info? e).map fun i=>(n,e,i.size)
 | _=>none
def aH:DV→List DV
 | .agg cs=>cs
 | x=>[x]
def rZ (bL:Nat→Option (Nat × Nat)) (cells:List DV):List (Nat × DV)→Option (List DV)
 | []=>some cells
 | (i,v)::rest =>
  match bL i with
  | none=>none
  | some (off,size) =>
   if (aH v).length≠size∨off + size > cells.length then none
   else rZ bL (cells.take off++aH v++cells.drop (off + size)) rest
def iT (P:Program) (t:TypeId):Option DV:=(P.info? t).bind fun i=>i.zero.bind vz
def iW (P:Program) (t:TypeId) (i:Nat):Option (Nat × Nat) :=
 match P.underlying t with
 | some (.struct fs)=>(fs[i]?).bind fun f=>(P.info? f.type).map fun j=>(f.offset,j.size)
 | _=>none
def qI (P:Program) (t:TypeId):Bool :=
 match P.underlying t with
 | some (.struct fs)=>fs.all fun f=>(P.info? f.type).isSome
 | _=>false
def r5 (P:Program) (t:TypeId):Bool :=
 match P.underlying t with
 | some .string=>true
 | _=>false
def isB (P:Program) (t:TypeId):Bool :=
 match P.underlying t with
 | some (.slice e)=>(match P.underlying e with | some (.int .u8)=>true | _=>false)
 | _=>false
def byteA:List DV→Option UInt8
 | [.d (.sc (.int .u8 n))]=>if ((UInt8.ofNat n.toNat).toNat:Int)=n then some (UInt8.ofNat n.toNat) else none
 | _=>none
def byteD:List aR→Option UInt8
 | [.sc (.int .u8 n)]=>if ((UInt8.ofNat n.toNat).toNat:Int)=n then some (UInt8.ofNat n.toNat) else none
 | _=>none
def pT:DV→Bool
 | .tup _=>false
 | _=>true
def DC (k:Nat):DV→Option DV
 | .ptr id off=>some (.ptr id (off + k))
 | .iptr cs off=>some (.iptr cs (off + k))
 | .eptr id i sz off=>some (.eptr id i sz (off + k))
 | .d (.sc (.pointer (some ⟨g,off,none⟩)))=>some (.d (.sc (.pointer (some ⟨g,off + k,none⟩))))
 | _=>none
def eX (e:aW) (dflt:Nat) (hi:Nat):Option Operand→Option Nat
 | none=>some dflt
 | some o=>match e.ev o with
  | some (.d (.sc (.int _ n)))=>if 0≤n∧n≤(hi:Int) then some n.toNat else none
  | _=>none
def aK (P:Program) (op:Op) (e:aW) (σ:aA):Option DV :=
 match op with
 | .move x=>e.ev x
 | .assign x=>e.ev x
 | .pick c a b =>
  match e.ev c with
  | some (.d (.sc (.bool t)))=>if t then e.ev a else e.ev b
  | _=>none
 | .nilCheck x =>
  match e.ev x with
  | some (.ptr id off)=>some (.ptr id off)
  | some (.iptr cs off)=>some (.iptr cs off)
  | some (.eptr id i sz off)=>some (.eptr id i sz off)
  | some (.fn (.func f) first cap)=>some (.fn (.func f) first cap)
  | some (.d (.sc (.pointer (some a))))=>some (.d (.sc (.pointer (some a))))
  | _=>none
 | .load t x =>
  match e.ev x with
  | some (.ptr id off)=>match σ.look id with
   | some (.box _ cells)=>lX P t (cells.drop off)
   | _=>none
  | some (.iptr cs off)=>lX P t ((cs.drop off).map .d)
  | some (.eptr id i sz off)=>match σ.look id with
   | some (.arr elem es)=>if sz=P.cellsOf elem then match es[i]? with
    | some c=>lX P t (c.drop off)
    | none=>none else none
   | _=>none
  | some (.d (.sc (.pointer (some ⟨g,off,none⟩))))=>match nU P g with
   | some vs=>lX P t ((vs.drop off).map fun v => .d (.sc v))
   | none=>none
  | _=>none
 | .fieldAddr s x f =>
  match lV P s f with
  | some k=>match e.ev x with
   | some (.ptr id off)=>some (.ptr id (off + k))
   | some (.iptr cs off)=>some (.iptr cs (off + k))
   | some (.eptr id i sz off)=>some (.eptr id i sz (off + k))
   | _=>none
  | none=>none
 | .indexAddr t x i =>
  match dU P t,e.ev i with
  | some (_,sz),some (.d (.sc (.int _ n)))=>match e.ev x with
   | some (.d (.lst es))=>if 0≤n then match es[n.toNat]? with
    | some cs=>if cs.length=sz∧sz≠0 then some (.iptr cs 0) else none
    | none=>none else none
   | some (.arr id)=>match σ.look id with
    | some (.arr elem es)=>if 0≤n∧n < (es.length:Int)∧P.cellsOf elem=sz then some (.eptr id n.toNat sz 0) else none
    | _=>none
   | _=>none
  | none,some (.d (.sc (.int _ n)))=>match wW P t,e.ev x with
   | some (len,_,sz),some d=>if 0≤n∧n < (len:Int) then DC (n.toNat * sz) d else none
   | _,_=>none
  | _,_=>none
 | .index t x i =>
  match e.ev x,e.ev i with
  | some (.d (.sc (.string s))),some (.d (.sc (.int _ n)))=>if 0≤n∧n < (s.size:Int)∧r5 P t=true then some (.d (.sc (.int .u8 (bt s n.toNat)))) else none
  | some (.agg cs),some (.d (.sc (.int _ n))) =>
   match wW P t with
   | some (len,el,sz)=>if 0≤n∧n < (len:Int) then lX P el (cs.drop (n.toNat * sz)) else none
   | none=>none
  | _,_=>none
 | .binOp op t x y _ =>
  match e.ev x,e.ev y with
  | some (.d (.sc a)),some (.d (.sc b)) =>
   match p9 op a b with
   | some v=>some (.d (.sc v))
   | none=>if op = .eql then (A3 P t (.d (.sc a)) (.d (.sc b))).map fun p => .d (.sc (.bool p)) else if op = .neq then (A3 P t (.d (.sc a)) (.d (.sc b))).map fun p => .d (.sc (.bool !p)) else none
  | some (.agg a),some (.agg b) =>
   if op = .eql then (KU P t a b).map fun p => .d (.sc (.bool p)) else if op = .neq then (KU P t a b).map fun p => .d (.sc (.bool !p)) else none
  | _,_=>none
 | .unOp op _ x =>
  match op,e.ev x with
  | .neg,some (.d (.sc (.int k n)))=>some (.d (.sc (.int k (k.wrap (0 - n)))))
  | .not,some (.d (.sc (.bool b)))=>some (.d (.sc (.bool !b)))
  | _,_=>none
 | .convert src t x =>
  if (P.underlying src).isSome then
   match P.underlying t,e.ev x with
   | some (.int k),some (.d (.sc (.int _ n)))=>some (.d (.sc (.int k (k.wrap n))))
   | some .string,some (.d (.sc (.string s)))=>some (.d (.sc (.string s)))
   | some .string,some (.arr id)=>match σ.look id with
    | some (.arr el es)=>if isB P src=true∧P.cellsOf el=1 then (es.mapM byteA).map fun l => .d (.sc (.string ⟨l.toArray⟩)) else none
    | _=>none
   | some .string,some (.d (.lst es))=>if isB P src=true then (es.mapM byteD).map fun l => .d (.sc (.string ⟨l.toArray⟩)) else none
   | _,_=>none
  else none
 | .extract x i =>
  match e.ev x with
  | some (.tup vs)=>vs[i]?
  | _=>none
 | .build t parts =>
  if qI P t then
   match iT P t,parts.toList.mapM (fun p=>(e.ev p.2).bind fun v=>if pT v then some (p.1,v) else none) with
   | some (.agg zs),some vs=>(rZ (iW P t) zs vs).map .agg
   | _,_=>none
  else
   match wW P t with
   | some (_,_,sz)=>match iT P t,parts.toList.mapM (fun p=>(e.ev p.2).bind fun v=>if pT v then some (p.1,v) else none) with
    | some (.agg zs),some vs=>(rZ (fun i=>some (i * sz,sz)) zs vs).map .agg
    | _,_=>none
   | none=>none
 | .field t x f =>
  match P.underlying t,e.ev x with
  | some (.struct fs),some (.agg cs)=>match fs[f]? with
   | some g=>lX P g.type (cs.drop g.offset)
   | none=>none
  | _,_=>none
 | .makeFunc fn first cap=>match first.toList.mapM e.ev,cap.toList.mapM e.ev with
  | some a,some b=>some (.fn fn a b)
  | _,_=>none
 | .makeInterface t x=>match P.underlying t with
  | some (.interface _)=>none
  | some _=>(e.ev x).map (.ifc t)
  | none=>none
 | .slice t x lo hi none =>
  match e.ev x with
  | some (.d (.sc (.string s)))=>match eX e s.size s.size hi with
   | some h=>match eX e 0 h lo with
    | some l=>if r5 P t=true then some (.d (.sc (.string (s.extract l h)))) else none
    | none=>none
   | none=>none
  | some (.d (.lst es))=>match dU P t with
   | some (_,sz)=>match eX e es.length es.length hi with
    | some h=>match eX e 0 h lo with
     | some l=>if es.all (fun c=>c.length == sz) then some (.d (.lst ((es.drop l).take (h - l)))) else none
     | none=>none
    | none=>none
   | none=>none
  | _=>none
 | .call { callee := .builtin .len,args,argTypes } =>
  match args.toList,argTypes[0]? with
  | [x],some t=>match e.ev x,P.underlying t with
   | some (.d (.sc (.string s))),some .string=>some (.d (.sc (.int .i64 s.size)))
   | some (.d (.lst es)),some (.slice _)=>some (.d (.sc (.int .i64 es.length)))
   | some .nils,some (.slice _)=>some (.d (.sc (.int .i64 0)))
   | some (.arr id),some (.slice _)=>match σ.look id with
    | some (.arr _ es)=>some (.d (.sc (.int .i64 es.length)))
    | _=>none
   | _,_=>none
  | _,_=>none
 | _=>none
section
variable {P:Program} {X:Nat→Prop} {ι:bZ} {σ:aA} {w:World} {M:Nat→Prop}
theorem aX.sc_inv {u v:Value} (h:aX ι w M (.d (.sc u)) v):v=u∧pU u=true:=by
 cases h with
 | d h=>cases h with
  | sc v h=>exact ⟨rfl,h⟩
theorem aX.of_sc {u:Value} (h:pU u=true):aX ι w M (.d (.sc u)) u := .d (.sc u h)
theorem aX.agg_inv {cs:List DV} {v:Value} (h:aX ι w M (.agg cs) v):∃ vs,v = .agg vs∧vs.size=cs.length∧∀ (i:Nat) x y,cs[i]? = some x→vs[i]? = some y→aX ι w M x y:=by
 cases h with
 | agg cs vs hl h=>exact ⟨vs,rfl,hl,h⟩
theorem aX.tup_inv {cs:List DV} {v:Value} (h:aX ι w M (.tup cs) v):∃ vs,v = .tuple vs∧vs.size=cs.length∧∀ (i:Nat) x y,cs[i]? = some x→vs[i]? = some y→aX ι w M x y:=by
 cases h with
 | tup cs vs hl h=>exact ⟨vs,rfl,hl,h⟩
theorem AQ {v:Value} {d:DV} (h:VH v=some d):aX ι w M d v:=by
 unfold VH at h
 split at h
 ·cases h;exact .nils none
 ·rename_i f fi ca
  split at h
  ·rename_i hz
   cases h
   exact .fn f [] [] fi ca hz.1 hz.2 (fun i x y hx _=>by simp at hx) (fun i x y hx _=>by simp at hx)
  ·cases h
 ·split at h
  ·rename_i hk
   cases h
   exact .of_sc hk
  ·cases h
theorem lZ {α β:Type} {f:α→Option β} {l:List α} {r:List β} (h:l.mapM f=some r):r.length=l.length∧∀ (i:Nat) x,l[i]? = some x→∃ y,r[i]? = some y∧f x=some y:=by
 induction l generalizing r with
 | nil=>simp at h;subst h;simp
 | cons a l ih =>
  simp only [List.mapM_cons,Option.bind_eq_bind] at h
  cases hf:f a with
  | none=>simp [hf] at h
  | some b =>
   cases hm:l.mapM f with
   | none=>simp [hf,hm] at h
   | some bs =>
    simp [hf,hm] at h
    subst h
    obtain ⟨h1,h2⟩:=ih hm
    refine ⟨by simp [h1],fun i x hx=>?_⟩
    cases i with
    | zero=>simp at hx;subst hx;exact ⟨b,by simp,hf⟩
    | succ i=>simp at hx;obtain ⟨y,hy1,hy2⟩:=h2 i x hx;exact ⟨y,by simpa using hy1,hy2⟩
theorem EJ {v:Value} {d:DV} (h:vz v=some d):aX ι w M d v:=by
 unfold vz at h
 split at h
 ·rename_i cs
  cases hm:cs.toList.mapM VH with
  | none=>simp [hm] at h
  | some r =>
   simp [hm] at h
   subst h
   obtain ⟨h1,h2⟩:=lZ hm
   refine .agg r cs (by simp [h1]) (fun i x y hx hy=>?_)
   obtain ⟨z,hz1,hz2⟩:=h2 i y (by simpa using hy)
   rw [hx] at hz1
   cases hz1
   exact AQ hz2
 ·exact AQ h
structure cR (ι:bZ) (w:World) (M:Nat→Prop) (e:aW) (a:Act):Prop where
 get:∀ t d,e.get t=some d→aX ι w M d (a.tmps.getD t undef)
theorem cR.ev {e:aW} {a:Act} (h:cR ι w M e a) {x:Operand} {d:DV} (hx:e.ev x=some d):aX ι w M d (a.eval x):=by
 cases x with
 | tmp t=>exact h.get t d hx
 | const v=>exact EJ hx
 | global g=>simp [aW.ev] at hx;subst hx;exact .of_sc rfl
 | func f=>simp [aW.ev] at hx;subst hx;exact .fn _ [] [] #[] #[] rfl rfl (fun i x y hx _=>by simp at hx) (fun i x y hx _=>by simp at hx)
theorem iH (b o:Nat):∀ (n i:Nat) (acc:Array Value) (vs:List Value),vs.length=n→(∀ j v,vs[j]? = some v→w.cell? ⟨b,o + (i + j),none⟩=some v) →
  (loadCellsFrom ⟨b,o,none⟩ i n acc).run P w = .ok (acc++vs.toArray) w
 | 0,i,acc,vs,hl,h=>by
  obtain rfl:vs=[]:=List.eq_nil_of_length_eq_zero hl
  simp [loadCellsFrom]
 | n + 1,i,acc,vs,hl,h=>by
  cases vs with
  | nil=>simp at hl
  | cons v vs =>
   have ha:(⟨b,o,none⟩:Addr).add i=⟨b,o + i,none⟩:=by unfold Addr.add;split <;> simp_all
   have h0:=h 0 v (by simp)
   simp only [Nat.add_zero] at h0
   simp only [loadCellsFrom,Sem.run_bind,run_load,ha,h0,Result.andThen_ok]
   rw [iH b o n (i + 1) (acc.push v) vs (by simpa using hl) (fun j u hj=>by
    have:=h (j + 1) u (by simpa using hj)
    rw [show i + 1 + j=i + (j + 1) by omega]
    exact this)]
   simp
theorem rL {t:TypeId} {c:Bool} (h:i7 P t=some c):(isAgg t).run P w = .ok c w∧∃ i,P.info? t=some i:=by
 unfold i7 at h
 unfold isAgg
 split at h <;> first | cases h | skip
 ·rename_i fs i hu hi;exact ⟨by simp [underlying,hu],_,hi⟩
 ·rename_i n e i hu hi;exact ⟨by simp [underlying,hu],_,hi⟩
 ·rename_i ty i h1 h2 hu hi
  refine ⟨?_,i,by assumption⟩
  cases ty <;> simp_all [underlying]
theorem fJ {t:TypeId} {i:TypeInfo} (h:P.info? t=some i):P.cellsOf t=i.size:=by simp [Program.cellsOf,h]
theorem cL {t:TypeId} {i:TypeInfo} (h:P.info? t=some i):(sizeOf t).run P w = .ok i.size w:=by simp [sizeOf,typeInfo,h]
theorem nI {t:TypeId} {cells:List DV} {d:DV} (h:lX P t cells=some d) {b o:Nat} {vs:Nat→Value}
  (hc:∀ j x,cells[j]? = some x→w.cell? ⟨b,o + j,none⟩=some (vs j)) (hr:∀ j x,cells[j]? = some x→aX ι w M x (vs j)) :
  ∃ v,(loadVar t ⟨b,o,none⟩).run P w = .ok v w∧aX ι w M d v:=by
 unfold lX at h
 split at h
 ·rename_i hag
  obtain ⟨h1,i,hi⟩:=rL (w:=w) hag
  split at h
  ·rename_i hle
   cases h
   rw [fJ hi] at hle
   let l:List Value:=(List.range i.size).map vs
   refine ⟨.agg l.toArray,?_,?_⟩
   ·have hrun:=iH (P:=P) (w:=w) b o i.size 0 #[] l (by simp [l]) (fun j v hj=>by
     have hjl:j < i.size:=by
      have:=(List.getElem?_eq_some_iff.1 hj).1
      simpa [l] using this
     have hv:v=vs j:=by simp [l,hjl] at hj;exact hj.symm
     have hx:cells[j]? = some cells[j]:=List.getElem?_eq_getElem (by omega)
     rw [Nat.zero_add,hv]
     exact hc j _ hx)
    simp [loadVar,h1,cL hi,loadCells,hrun]
   ·refine .agg _ _ (by simp [l,fJ hi];omega) (fun j x y hx hy=>?_)
    rw [fJ hi] at hx
    have hj:j < i.size:=by
     have:=(List.getElem?_eq_some_iff.1 hx).1
     simp at this;omega
    have hx':cells[j]? = some x:=by rw [List.getElem?_take] at hx;simpa [hj] using hx
    have hy':y=vs j:=by simp [l,hj] at hy;exact hy.symm
    rw [hy']
    exact hr j x hx'
  ·cases h
 ·rename_i hag
  obtain ⟨h1,i,hi⟩:=rL (w:=w) hag
  have hx:cells[0]? = some d:=by rw [← List.head?_eq_getElem?];exact h
  refine ⟨vs 0,?_,hr 0 d hx⟩
  have:=hc 0 d hx
  rw [Nat.add_zero] at this
  simp [loadVar,h1,this]
 ·cases h
theorem mZ {s:TypeId} {f k:Nat} (h:lV P s f=some k) {b o:Nat} {v:Value} (hv:v = .pointer (some ⟨b,o,none⟩)) :
  (Instr.fieldAt s v f).run P w = .ok (.pointer (some ⟨b,o + k,none⟩)) w:=by
 unfold lV at h
 split at h <;> try cases h
 rename_i fs hu
 split at h <;> try cases h
 rename_i g hg
 split at h <;> try cases h
 rename_i i hi
 split at h
 ·cases h
 ·rename_i hz
  cases h
  have ha:(⟨b,o,none⟩:Addr).add g.offset=⟨b,o + g.offset,none⟩:=by unfold Addr.add;split <;> simp_all
  subst hv
  simp [Instr.fieldAt,underlying,hu,hg,Instr.sureAddr,fieldPlace,cL hi,hz,ha]
end
section
variable {P:Program} {X:Nat→Prop} {ι:bZ} {σ:aA} {w:World} {M:Nat→Prop}
theorem qZ (k:IntKind) (n:Int):pU (.int k (k.wrap n))=true:=by
 simp only [pU,Bool.and_eq_true,decide_eq_true_eq]
 cases k <;> simp [IntKind.wrap,IntKind.min,IntKind.max,IntKind.bits,IntKind.signed] <;> (constructor <;> (try split) <;> omega)
theorem pC {k:IntKind} {n:Int}:pU (.int k n)=true↔k.min≤n∧n≤k.max:=by simp [pU]
theorem NB {k:IntKind} {a b:Int} (h:pU (.int k a)=true):pU (.int k (a.tmod b))=true:=by
 rw [pC] at *
 have h1:a.tmod b≤max a 0∧min a 0≤a.tmod b:=by
  rcases Int.le_total 0 a with h0 | h0
  ·have h2:=Int.tmod_nonneg b h0
   have h3:a.tmod b≤a:=by
    have:=Int.natAbs_tmod a b
    have:=Nat.mod_le a.natAbs b.natAbs
    omega
   omega
  ·have h2:a.tmod b≤0:=by
    have:=Int.tmod_nonneg b (show 0≤-a by omega)
    rw [Int.neg_tmod] at this;omega
   have h3:a≤a.tmod b:=by
    have:=Int.natAbs_tmod a b
    have:=Nat.mod_le a.natAbs b.natAbs
    omega
   omega
 have h2:k.min≤0∧0≤k.max:=by cases k <;> simp [IntKind.min,IntKind.max,IntKind.bits,IntKind.signed]
 omega
theorem L1 {k:IntKind} {a:Int} {m:Nat} (h:pU (.int k a)=true):pU (.int k (a.fdiv (2 ^ m)))=true:=by
 rw [pC] at *
 have h2:k.min≤0∧0≤k.max:=by cases k <;> simp [IntKind.min,IntKind.max,IntKind.bits,IntKind.signed]
 have hp:(1:Int)≤2 ^ m:=by
  have:(0:Int) < 2 ^ m:=Int.pow_pos (by decide)
  omega
 rw [Int.fdiv_eq_ediv_of_nonneg _ (by omega)]
 rcases Int.le_total 0 a with h0 | h0
 ·have h3:a / (2 ^ m)≤a:=Int.ediv_le_self _ h0
  have h4:0≤a / (2 ^ m):=Int.ediv_nonneg h0 (by omega)
  omega
 ·have h3:a / (2 ^ m)≤0:=by
   have:=Int.ediv_le_ediv (c:=(2 ^ m:Int)) (by omega) h0
   simpa using this
  have h4:a≤a / (2 ^ m):=by
   rw [Int.le_ediv_iff_mul_le (by omega)]
   have:a * (2 ^ m)≤a * 1:=Int.mul_le_mul_of_nonpos_left h0 hp
   omega
  omega
theorem IP {a b:ByteArray}:a.toList=b.toList↔a=b:=by
 constructor
 ·intro h
  rw [ByteArray.toList_eq,ByteArray.toList_eq] at h
  cases a;cases b
  simp only at h
  congr 1
  exact Array.toList_inj.1 h
 ·rintro rfl;rfl
theorem IJ (a b:ByteArray):(a.toList == b.toList)=decide (a=b):=by
 rw [Bool.eq_iff_iff];simp [IP]
theorem LD {op : BinOp} {x y u : Value} (h : p9 op x y = some u) (t : TypeId) : (binOp op t x y).run P w = .ok u w := by
  unfold p9 at h
  split at h
  · rename_i k a k' b
    by_cases h1 : op = .shl
    · subst h1
      simp only [if_true] at h
      split at h
      · cases h
      · rename_i hb; cases h; simp [binOp, Op.shift, hb]
    · by_cases h2 : op = .shr
      · subst h2
        simp only [reduceCtorEq, if_false, if_true] at h
        split at h
        · cases h
        · rename_i hb; cases h; simp [binOp, Op.shift, hb]
      · simp only [h1, h2, if_false] at h
        split at h
        · rename_i hk
          subst hk
          cases op <;> simp_all [xI, binOp, Op.intArith, Op.intBits, Op.intCmp, Op.intDiv]
          all_goals first
            | (obtain ⟨h1, rfl⟩ := h; simp [h1])
            | (subst h; simp [bne, Int.beq_eq_decide]; done)
            | (subst h; rfl)
            | skip
        · cases h
  · rename_i a b
    cases op <;> simp [AI] at h <;> simp [binOp, Op.stringOp, IJ]
    all_goals first
      | (obtain ⟨h1, rfl⟩ := h; have : ¬ ((9223372036854775807 : Int) < a.size + b.size) := by omega
         simp [this]; done)
      | (subst h; simp [lR]; done)
      | skip
  · cases h
end
section
variable {P:Program} {X:Nat→Prop} {ι:bZ} {σ:aA} {w:World} {M:Nat→Prop}
theorem LC {op:BinOp} {x y u:Value} (h:p9 op x y=some u) (hx:pU x=true):pU u=true:=by
 unfold p9 at h
 split at h
 ·rename_i k a k' b
  split at h
  ·split at h
   ·cases h
   ·cases h;exact qZ _ _
  ·split at h
   ·split at h
    ·cases h
    ·cases h;exact L1 hx
   ·split at h
    ·cases op <;> simp [xI] at h
     all_goals first
      | (subst h;first | exact qZ _ _ | rfl)
      | (obtain ⟨_,rfl⟩:=h;first | exact qZ _ _ | exact NB hx)
    ·cases h
 ·rename_i a b
  cases op <;> simp [AI] at h
  all_goals first
   | (obtain ⟨h1,rfl⟩:=h;simp [pU,maxLen,ByteArray.size_append];omega)
   | (subst h;rfl)
 ·cases h
theorem OE {α:Type} [DecidableEq α] [BEq α] [LawfulBEq α] (a b:α):(a == b)=decide (a=b):=by rw [Bool.eq_iff_iff];simp
theorem IM (a b:ByteArray):(a == b)=decide (a=b):=by
 rw [Bool.eq_iff_iff]
 cases a with | mk x=>cases b with | mk y =>
 have:((⟨x⟩:ByteArray) == ⟨y⟩)=(x == y):=rfl
 rw [this]
 simp
theorem A4 {t:TypeId} {x y:Value} {p:Bool} (h:CN P t x y=some p) (d:Nat):(Op.equalIn (d + 1) t x y).run P w = .ok p w:=by
 unfold CN at h
 split at h
 ·rename_i hu;cases h;simp [Op.equalIn,underlying,hu]
 ·rename_i hu
  split at h
  ·rename_i hk;subst hk;cases h;simp [Op.equalIn,underlying,hu,OE]
  ·cases h
 ·rename_i hu;cases h
  simp [Op.equalIn,underlying,hu,IM]
 ·cases h
theorem OS {t:TypeId} {x y:Value} {p:Bool} (h:CN P t x y=some p):x.cells=#[x]∧y.cells=#[y]∧i7 P t≠some true∧(∃ d,P.underlying t=some d):=by
 unfold CN at h
 split at h <;> first | cases h | skip
 ·rename_i hu;simp [Value.cells,i7,hu];split <;> simp_all
 ·rename_i hu;simp [Value.cells,i7,hu];split <;> simp_all
 ·rename_i hu;simp [Value.cells,i7,hu];split <;> simp_all
theorem DF {t:TypeId} {xs:Array Value} {off:Nat} {v:Value} (ha:i7 P t≠some true) (hd:∃ d,P.underlying t=some d) (hi:∃ i,P.info? t=some i) (hx:xs[off]? = some v):(part t xs off).run P w = .ok v w:=by
 obtain ⟨i,hi⟩:=hi
 obtain ⟨d,hd⟩:=hd
 have h1:(isAgg t).run P w = .ok false w:=by
  unfold isAgg
  unfold i7 at ha
  cases d <;> simp_all [underlying]
 simp [part,h1,hx]
theorem sJ {t:TypeId} {d:TypeDesc} (h:P.underlying t=some d):∃ i,P.info? t=some i:=by
 unfold Program.underlying at h
 split at h
 ·exact ⟨_,by assumption⟩
 ·exact ⟨_,by assumption⟩
 ·cases h
theorem s8 (xs ys:List DV) (vx vy:Array Value) (hx:∀ (i:Nat) x y,xs[i]? = some x→vx[i]? = some y→aX ι w M x y) (hy:∀ (i:Nat) x y,ys[i]? = some x→vy[i]? = some y→aX ι w M x y)
  (lx:vx.size=xs.length) (ly:vy.size=ys.length) (d:Nat):∀ (fs:List Field) (p:Bool),eqFields P xs ys fs=some p→(Op.eqFields (d + 1) vx vy fs).run P w = .ok p w
 | [],p,h=>by simp [eqFields] at h;subst h;simp [Op.eqFields]
 | f::fs,p,h=>by
  simp only [eqFields] at h
  cases ha:xs[f.offset]? with
  | none=>simp [ha] at h
  | some a =>
   cases hb:ys[f.offset]? with
   | none=>rw [ha,hb] at h;revert h;split <;> simp_all
   | some b =>
    rw [ha,hb] at h
    split at h
    ·rename_i a' b' h1 h2
     cases h1;cases h2
     split at h
     ·cases h
     ·rename_i hn
      split at h
      ·rename_i p1 q1 hp hq
       cases h
       have hxl:f.offset < xs.length:=(List.getElem?_eq_some_iff.1 ha).1
       have hyl:f.offset < ys.length:=(List.getElem?_eq_some_iff.1 hb).1
       have hvx:vx[f.offset]? = some vx[f.offset]:=Array.getElem?_eq_getElem (by omega)
       have hvy:vy[f.offset]? = some vy[f.offset]:=Array.getElem?_eq_getElem (by omega)
       have e1:=(hx _ _ _ ha hvx).sc_inv.1
       have e2:=(hy _ _ _ hb hvy).sc_inv.1
       rw [e1] at hvx
       rw [e2] at hvy
       obtain ⟨_,_,hag,hd,hud⟩:=OS hp
       obtain hi:=sJ hud
       have r1:=DF (w:=w) hag ⟨hd,hud⟩ hi hvx
       have r2:=DF (w:=w) hag ⟨hd,hud⟩ hi hvy
       have r3:=A4 (w:=w) hp d
       have ih:=s8 xs ys vx vy hx hy lx ly d fs q1 hq
       simp only [Op.eqFields,hn,ne_eq,not_false_eq_true,if_true,Sem.run_bind,r1,r2,r3,Result.andThen_ok,Sem.run_ite]
       cases p1
       ·simp
       ·simp [ih]
      ·cases h
    ·cases h
end
section
variable {P:Program} {X:Nat→Prop} {ι:bZ} {σ:aA} {w:World}
theorem DP {t:TypeId} {i:TypeInfo} (h:P.info? t=some i):(typeInfo t).run P w = .ok i w:=by simp [typeInfo,h]
theorem lS (b o n:Nat):(⟨b,o,none⟩:Addr).add n=⟨b,o + n,none⟩:=by unfold Addr.add;split <;> simp_all
theorem aQ.box {id:Nat} {ty:TypeId} {cells:List DV} (h:aQ P X ι σ w) (hl:σ.look id=some (.box ty cells)) {b:Nat} (hb:ι id=some (.pointer (some ⟨b,0,none⟩))) :
  ∃ cs,w.heap[b]? = some (.cells cs ty (0,0))∧cs.size=cells.length∧(∀ (j:Nat) x y,cells[j]? = some x→cs[j]? = some y→aX ι w (bQ X ι σ) x y)∧∀ (j:Nat) y,cs[j]? = some y→y.cells=#[y]:=by
 obtain ⟨v,hv,ho⟩:=h.obj _ _ hl
 rw [hb] at hv
 cases hv
 cases ho with
 | box ty cells b cs hb hl h h1=>exact ⟨cs,hb,hl,h,h1⟩
theorem aQ.arr {id:Nat} {elem:TypeId} {es:List (List DV)} (h:aQ P X ι σ w) (hl:σ.look id=some (.arr elem es)) {A:Option Addr} {n c:Nat} (hb:ι id=some (.slice A n c)) :
  n=es.length∧n≤gY∧n≤c∧((∀ e ∈ es,e.length=P.cellsOf elem)∧∀ e ∈ es,∀ x ∈ e,f7 x=true)∧(es=[]∧c=0∨∃ b o cs,A=some ⟨b,o,none⟩∧w.heap[b]? = some (.cells cs elem (0,0))∧o + c * P.cellsOf elem≤cs.size ∧
   ∀ (i j:Nat) (e:List DV) (x:DV) (y:Value),es[i]? = some e→e[j]? = some x→cs[o + (i * P.cellsOf elem + j)]? = some y→aX ι w (bQ X ι σ) x y):=by
 obtain ⟨v,hv,ho⟩:=h.obj _ _ hl
 rw [hb] at hv
 cases hv
 cases ho with
 | nil elem A=>exact ⟨rfl,by simp,Nat.le_refl _,⟨by simp,by simp⟩,.inl ⟨rfl,rfl⟩⟩
 | arr elem es b o c cs hb0 hc hn hm hs hcl h=>exact ⟨rfl,hm,hn,⟨hs,hcl⟩,.inr ⟨b,o,cs,rfl,hb0,hc,h⟩⟩
theorem mL {b o:Nat} {cs:Array Value} {t:TypeId} {fr:Nat × Nat} (h:w.heap[b]? = some (.cells cs t fr)):w.cell? ⟨b,o,none⟩=cs[o]?:=by
 simp [World.cell?,h]
theorem xN {e:aW} {t:TypeId} {x:Operand} {d:DV} {a:Act} (he:cR ι w (bQ X ι σ) e a) (hh:aQ P X ι σ w) (h:aK P (.load t x) e σ=some d) :
  ∃ v,(Instr.loadAt t (a.eval x)).run P w = .ok v w∧aX ι w (bQ X ι σ) d v:=by
 simp only [aK] at h
 split at h
 ·rename_i id off hx
  have hv:=he.ev hx
  generalize a.eval x=v at hv
  cases hv with
  | ptr _ _ b hb =>
   split at h
   ·rename_i ty cells hl
    obtain ⟨cs,h1,h2,h3,_⟩:=hh.box hl hb
    obtain ⟨v,hr,hv⟩:=nI (w:=w) (ι:=ι) (M:=bQ X ι σ) h (b:=b) (o:=off) (vs:=fun j=>cs.getD (off + j) undef) (fun j x hx=>by
     rw [mL h1]
     rw [List.getElem?_drop] at hx
     have:off + j < cs.size:=by have:=(List.getElem?_eq_some_iff.1 hx).1;omega
     simp [this]) (fun j x hx=>by
     rw [List.getElem?_drop] at hx
     have:off + j < cs.size:=by have:=(List.getElem?_eq_some_iff.1 hx).1;omega
     exact h3 _ _ _ hx (by simp [this]))
    exact ⟨v,by simp [Instr.loadAt,Instr.sureAddr,hr],hv⟩
   ·cases h
 ·rename_i cs off hx
  have hv:=he.ev hx
  generalize a.eval x=v at hv
  cases hv with
  | iptr _ _ b o vs hM hb hcell hrel =>
   obtain ⟨v,hr,hv⟩:=nI (w:=w) (ι:=ι) (M:=bQ X ι σ) h (b:=b) (o:=o + off) (vs:=fun j=>vs (off + j)) (fun j x hx=>by
     simp only [List.getElem?_map,List.getElem?_drop,Option.map_eq_some_iff] at hx
     obtain ⟨y,hy,rfl⟩:=hx
     rw [Nat.add_assoc]
     exact hcell _ _ hy) (fun j x hx=>by
     simp only [List.getElem?_map,List.getElem?_drop,Option.map_eq_some_iff] at hx
     obtain ⟨y,hy,rfl⟩:=hx
     exact .d (hrel _ _ hy))
   exact ⟨v,by simp [Instr.loadAt,Instr.sureAddr,hr],hv⟩
 ·rename_i id i sz off hx
  have hv:=he.ev hx
  generalize a.eval x=v at hv
  cases hv with
  | eptr _ _ _ _ b o n c hb =>
   split at h
   ·rename_i elem es hl
    split at h
    ·rename_i hsz
     split at h
     ·rename_i cells hc
      obtain ⟨h1,h2,h2',⟨h3,_⟩,h4⟩:=hh.arr hl hb
      rcases h4 with ⟨rfl,rfl⟩ | ⟨b',o',cs,he',h5,h6,h7⟩
      ·simp at hc
      ·cases he'
       have hlen:cells.length=sz:=by rw [h3 _ (List.mem_of_getElem? hc)];exact hsz.symm
       have hil:i < es.length:=(List.getElem?_eq_some_iff.1 hc).1
       have hbd:∀ j,j < sz→o + (i * sz + j) < cs.size:=fun j hj=>by
        rw [← hsz] at h6
        have:i * sz + j < c * sz:=by
         have h8:(i + 1) * sz≤c * sz:=Nat.mul_le_mul_right _ (by omega)
         rw [Nat.add_mul] at h8;omega
        omega
       obtain ⟨v,hr,hv⟩:=nI (w:=w) (ι:=ι) (M:=bQ X ι σ) h (b:=b) (o:=o + (i * sz + off)) (vs:=fun j=>cs.getD (o + (i * sz + off) + j) undef) (fun j x hx=>by
        rw [List.getElem?_drop] at hx
        have:=hbd (off + j) (by have:=(List.getElem?_eq_some_iff.1 hx).1;omega)
        rw [mL h5]
        have:o + (i * sz + off) + j < cs.size:=by omega
        simp [this]) (fun j x hx=>by
        rw [List.getElem?_drop] at hx
        have:=hbd (off + j) (by have:=(List.getElem?_eq_some_iff.1 hx).1;omega)
        refine h7 i (off + j) cells x _ hc hx ?_
        rw [← hsz,show o + (i * sz + (off + j))=o + (i * sz + off) + j by omega]
        have:o + (i * sz + off) + j < cs.size:=by omega
        simp [this])
       exact ⟨v,by simp [Instr.loadAt,Instr.sureAddr,hr],hv⟩
     ·cases h
    ·cases h
   ·cases h
 ·rename_i g off hx
  have hv:=(he.ev hx).sc_inv.1
  rw [hv]
  split at h
  ·rename_i vs hg
   obtain ⟨_,_,g3'⟩:=hh.glob g (by simp [JG,hg])
   have g3:=g3'.tab vs hg
   obtain ⟨v,hr,hv⟩:=nI (w:=w) (ι:=ι) (M:=bQ X ι σ) h (b:=g) (o:=off) (vs:=fun j=>vs.getD (off + j) undef) (fun j x hx=>by
     simp only [List.getElem?_map,List.getElem?_drop,Option.map_eq_some_iff] at hx
     obtain ⟨y,hy,rfl⟩:=hx
     rw [(g3 _ _ hy).2]
     simp [hy]) (fun j x hx=>by
     simp only [List.getElem?_map,List.getElem?_drop,Option.map_eq_some_iff] at hx
     obtain ⟨y,hy,rfl⟩:=hx
     have:vs.getD (off + j) undef=y:=by simp [hy]
     rw [this]
     exact .d (.sc _ (g3 _ _ hy).1))
   exact ⟨v,by simp [Instr.loadAt,Instr.sureAddr,hr],hv⟩
  ·cases h
 ·cases h
theorem fE {t:TypeId} {el:TypeId} {sz:Nat} (h:dU P t=some (el,sz)):P.underlying t=some (.slice el)∧∃ i,P.info? el=some i∧i.size=sz:=by
 unfold dU at h
 split at h
 ·rename_i e hu
  cases hi:P.info? e with
  | none=>simp [hi] at h
  | some i=>simp [hi] at h;obtain ⟨rfl,rfl⟩:=h;exact ⟨hu,i,hi,rfl⟩
 ·cases h
theorem EX {t el:TypeId} {len sz:Nat} (h:wW P t=some (len,el,sz)):P.underlying t=some (.array len el)∧∃ i,P.info? el=some i∧i.size=sz:=by
 unfold wW at h
 split at h
 ·rename_i n e hu
  cases hi:P.info? e with
  | none=>simp [hi] at h
  | some i=>simp [hi] at h;obtain ⟨rfl,rfl,rfl⟩:=h;exact ⟨hu,i,hi,rfl⟩
 ·cases h
theorem FQ {d d':DV} {v:Value} {k:Nat} (hv:aX ι w (bQ X ι σ) d v) (h:DC k d=some d'):∃ b o,v = .pointer (some ⟨b,o,none⟩)∧aX ι w (bQ X ι σ) d' (.pointer (some ⟨b,o + k,none⟩)):=by
 cases hv with
 | ptr id off b hb=>simp only [DC] at h;cases h;exact ⟨b,off,rfl,.ptr id _ b hb⟩
 | iptr cs off b o vs hM hb hcell hrel=>simp only [DC] at h;cases h;exact ⟨b,o + off,rfl,by rw [Nat.add_assoc];exact .iptr cs _ b o vs hM hb hcell hrel⟩
 | eptr id i sz off b o n c hb=>simp only [DC] at h;cases h;exact ⟨b,o + (i * sz + off),rfl,by rw [Nat.add_assoc,Nat.add_assoc];exact .eptr id i sz _ b o n c hb⟩
 | d hd =>
  cases hd with
  | sc v hok =>
   unfold DC at h
   split at h
   all_goals first
    | (cases h;done)
    | skip
   all_goals (rename_i heq;cases heq)
   cases h
   exact ⟨_,_,rfl,.of_sc rfl⟩
  | _=>simp [DC] at h
 | _=>simp [DC] at h
theorem v8 {e:aW} {t:TypeId} {x i:Operand} {d:DV} {a:Act} (he:cR ι w (bQ X ι σ) e a) (hh:aQ P X ι σ w) (h:aK P (.indexAddr t x i) e σ=some d) :
  ∃ v,(Instr.indexAt t (a.eval x) (a.eval i)).run P w = .ok v w∧aX ι w (bQ X ι σ) d v:=by
 simp only [aK] at h
 split at h
 ·rename_i el sz k n hel hi
  obtain ⟨hu,inf,hinf,hsz⟩:=fE hel
  have hiv:=(he.ev hi).sc_inv.1
  rw [hiv]
  split at h
  ·rename_i es hx
   have hv:=he.ev hx
   split at h
   ·rename_i h0
    split at h
    ·rename_i cs hcs
     split at h
     ·rename_i hlen
      cases h
      have hlt:n.toNat < es.length:=(List.getElem?_eq_some_iff.1 hcs).1
      generalize a.eval x=v at hv
      cases hv with
      | d hv=>cases hv with
       | emp A c=>simp at hcs
       | lst b o n' c size _ vs hn hc hm hb hM hs hcell hrel =>
        have hsize:size=sz:=by rw [← hs _ _ hcs];exact hlen.1
        subst hsize
        refine ⟨.pointer (some ⟨b,o + n.toNat * size + 0,none⟩),?_,?_⟩
        ·have:0≤n∧n < (n':Int):=by omega
         simp [Instr.indexAt,asIntOf,underlying,hu,this,cL hinf,hsz,lS]
        ·refine .iptr cs 0 b (o + n.toNat * size) (vs n.toNat) hM hb (fun j x hj=>?_) (fun j x hj=>hrel _ _ _ _ hcs hj)
         rw [Nat.add_assoc]
         exact hcell _ _ _ _ hcs hj
     ·cases h
    ·cases h
   ·cases h
  ·rename_i id hx
   have hv:=he.ev hx
   split at h
   ·rename_i elem es hl
    split at h
    ·rename_i hc0
     obtain ⟨h0,hlt,hsz'⟩:=hc0
     cases h
     generalize a.eval x=v at hv
     cases hv with
     | arr _ v hid hsl =>
      obtain ⟨A,n',c,rfl⟩:=hsl
      obtain ⟨h1,h2,h2',⟨h3,_⟩,h4⟩:=hh.arr hl hid
      rcases h4 with ⟨rfl,rfl⟩ | ⟨b,o,cs,rfl,h5,h6,h7⟩
      ·simp at hlt;omega
      ·refine ⟨.pointer (some ⟨b,o + (n.toNat * sz + 0),none⟩),?_,.eptr id n.toNat sz 0 b o n' c hid⟩
       have:0≤n∧n < (n':Int):=by omega
       simp [Instr.indexAt,asIntOf,underlying,hu,this,cL hinf,hsz,lS]
    ·cases h
   ·cases h
  ·cases h
 ·rename_i k n hel hi
  have hiv:=(he.ev hi).sc_inv.1
  rw [hiv]
  split at h
  ·rename_i len el sz dx hao hx
   obtain ⟨hu,inf,hinf,hsz⟩:=EX hao
   split at h
   ·rename_i hc
    obtain ⟨b,o,hxv,hr⟩:=FQ (he.ev hx) h
    refine ⟨_,?_,hr⟩
    rw [hxv]
    simp [Instr.indexAt,Instr.sureAddr,asIntOf,underlying,hu,hc,cL hinf,hsz,lS]
   ·cases h
  ·cases h
 ·cases h
end
section
variable {P:Program} {X:Nat→Prop} {ι:bZ} {σ:aA} {w:World} {M:Nat→Prop}
structure cM (ι:bZ) (w:World) (M:Nat→Prop) (ds:List DV) (vs:List Value):Prop where
 len:vs.length=ds.length
 get:∀ (i:Nat) x y,ds[i]? = some x→vs[i]? = some y→aX ι w M x y
theorem cM.nil:cM ι w M [] []:=⟨rfl,fun i x y h=>by simp at h⟩
theorem cM.cons {x:DV} {v:Value} {xs:List DV} {vs:List Value} (h:aX ι w M x v) (hs:cM ι w M xs vs):cM ι w M (x::xs) (v::vs) :=
 ⟨by simp [hs.len],fun i y z h1 h2=>by
  cases i with
  | zero=>simp at h1 h2;subst h1;subst h2;exact h
  | succ i=>exact hs.get i y z (by simpa using h1) (by simpa using h2)⟩
theorem cM.append {xs ys:List DV} {vs us:List Value} (h:cM ι w M xs vs) (k:cM ι w M ys us):cM ι w M (xs++ys) (vs++us) :=
 ⟨by simp [h.len,k.len],fun i x y h1 h2=>by
  rw [List.getElem?_append] at h1 h2
  rw [h.len] at h2
  split at h1
  ·rename_i hl
   rw [if_pos hl] at h2
   exact h.get _ _ _ h1 h2
  ·rename_i hl
   rw [if_neg hl] at h2
   exact k.get _ _ _ h1 h2⟩
theorem cM.take {xs:List DV} {vs:List Value} (h:cM ι w M xs vs) (n:Nat):cM ι w M (xs.take n) (vs.take n) :=
 ⟨by simp [h.len],fun i x y h1 h2=>by
  rw [List.getElem?_take] at h1 h2
  split at h1
  ·rename_i hl;rw [if_pos hl] at h2;exact h.get _ _ _ h1 h2
  ·cases h1⟩
theorem cM.drop {xs:List DV} {vs:List Value} (h:cM ι w M xs vs) (n:Nat):cM ι w M (xs.drop n) (vs.drop n) :=
 ⟨by simp [h.len],fun i x y h1 h2=>by
  rw [List.getElem?_drop] at h1 h2
  exact h.get _ _ _ h1 h2⟩
theorem aX.agg_of {ds:List DV} {vs:Array Value} (h:cM ι w M ds vs.toList):aX ι w M (.agg ds) (.agg vs) :=
 .agg ds vs (by simpa using h.len) (fun i x y h1 h2=>h.get i x y h1 (by simpa using h2))
theorem aX.tup_of {ds:List DV} {vs:Array Value} (h:cM ι w M ds vs.toList):aX ι w M (.tup ds) (.tuple vs) :=
 .tup ds vs (by simpa using h.len) (fun i x y h1 h2=>h.get i x y h1 (by simpa using h2))
theorem aX.agg_l {ds:List DV} {v:Value} (h:aX ι w M (.agg ds) v):∃ vs,v = .agg vs∧cM ι w M ds vs.toList:=by
 obtain ⟨vs,rfl,hl,hg⟩:=h.agg_inv
 exact ⟨vs,rfl,by simpa using hl,fun i x y h1 h2=>hg i x y h1 (by simpa using h2)⟩
theorem n9 {d:DV} {v:Value} (h:aX ι w M d v) (hn:pT d=true):cM ι w M (aH d) v.cells.toList:=by
 cases h with
 | agg cs vs hl h=>exact ⟨by simpa [Value.cells,aH] using hl,fun i x y h1 h2=>h i x y h1 (by simpa [Value.cells] using h2)⟩
 | tup=>simp [pT] at hn
 | d h =>
  have hc:v.cells=#[v]:=by cases h <;> first | rfl | (rename_i hk;cases v <;> first | rfl | simp [pU] at hk)
  rw [hc]
  exact .cons (.d h) .nil
 | nils A=>exact .cons (.nils A) .nil
 | ptr id off b h=>exact .cons (.ptr id off b h) .nil
 | iptr cs off b o vs a b c d=>exact .cons (.iptr cs off _ o vs a b c d) .nil
 | eptr id i sz off b o n c h=>exact .cons (.eptr id i sz off b o n c h) .nil
 | arr id v h hv =>
  obtain ⟨A,n,c,rfl⟩:=hv
  exact .cons (.arr id _ h ⟨A,n,c,rfl⟩) .nil
 | mp id v h hv =>
  obtain ⟨r,rfl⟩:=hv
  exact .cons (.mp id _ h ⟨r,rfl⟩) .nil
 | fn f first cap fi ca h1 h2 hf hc=>exact .cons (.fn f first cap fi ca h1 h2 hf hc) .nil
 | ifc t x v h=>exact .cons (.ifc t x v h) .nil
theorem uR (cs:Array Value) (off:Nat):∀ (vs:List Value) (k:Nat) (acc:Array Value),off + k + vs.length≤acc.size →
  ((vs.zipIdx k).foldl (fun a (c,j)=>a.setIfInBounds (off + j) c) acc).toList=acc.toList.take (off + k)++vs++acc.toList.drop (off + k + vs.length)
 | [],k,acc,h=>by simp
 | v::vs,k,acc,h=>by
  simp only [List.length_cons] at h
  simp only [List.zipIdx_cons,List.foldl_cons]
  rw [uR cs off vs (k + 1) _ (by simp;omega)]
  simp only [Array.toList_setIfInBounds]
  have:=list_seg_step acc.toList (off + k) v vs (by simp;omega)
  rw [show off + (k + 1)=off + k + 1 by omega]
  simp only [List.length_cons]
  exact this
theorem xD {bL:Nat→Option (Nat × Nat)}:∀ (parts:List (Nat × DV)) (vparts:List (Nat × Value)) (cells:List DV) (aS:Array Value) (r:List DV),cM ι w M cells aS.toList→vparts.length=parts.length →
  (∀ (i:Nat) a b,parts[i]? = some a→vparts[i]? = some b→b.1=a.1∧aX ι w M a.2 b.2∧pT a.2=true)→rZ bL cells parts=some r→∃ vr,Instr.fill bL aS vparts=some vr∧cM ι w M r vr.toList
 | [],vparts,cells,aS,r,hc,hl,hp,h=>by
  obtain rfl:vparts=[]:=List.eq_nil_of_length_eq_zero hl
  simp [rZ] at h
  subst h
  exact ⟨aS,rfl,hc⟩
 | (i,d)::parts,[],cells,aS,r,hc,hl,hp,h=>by simp at hl
 | (i,d)::parts,(i',v)::vparts,cells,aS,r,hc,hl,hp,h=>by
  obtain ⟨h1,h2,h3⟩:=hp 0 (i,d) (i',v) (by simp) (by simp)
  simp only at h1 h2 h3
  subst h1
  simp only [rZ] at h
  simp only [Instr.fill]
  cases hpl:bL i' with
  | none=>simp [hpl] at h
  | some os =>
   obtain ⟨off,size⟩:=os
   simp only [hpl] at h ⊢
   split at h
   ·cases h
   ·rename_i hcond
    have hrel:=n9 h2 h3
    have hvs:v.cells.size=(aH d).length:=by simpa using hrel.len
    have hvl:aS.size=cells.length:=by simpa using hc.len
    have hcond':¬ (v.cells.size≠size∨off + v.cells.size > aS.size):=by omega
    have hb:(decide (v.cells.size≠size) || decide (off + v.cells.size > aS.size))=false:=by simpa using hcond'
    simp only [hb,Bool.false_eq_true,if_false]
    refine xD parts vparts _ _ r ?_ (by simpa using hl) (fun j a b ha hb=>hp (j + 1) a b (by simpa using ha) (by simpa using hb)) h
    have hfold:=uR aS off v.cells.toList 0 aS (by simp;omega)
    have e0:(Array.foldl (fun cs (x:Value × Nat)=>cs.setIfInBounds (off + x.2) x.1) aS v.cells.zipIdx).toList=aS.toList.take off++v.cells.toList++aS.toList.drop (off + size):=by
     rw [← Array.foldl_toList,Array.toList_zipIdx]
     rw [hfold]
     have:v.cells.toList.length=size:=by simp;omega
     rw [this];simp
    have e1:(Array.foldl (fun (cs:Array Value) x=>match x with | (c,j)=>cs.setIfInBounds (off + j) c) aS v.cells.zipIdx).toList=aS.toList.take off++v.cells.toList++aS.toList.drop (off + size):=e0
    rw [e1]
    exact ((hc.take off).append hrel).append (hc.drop (off + size))
end
section
variable {P:Program} {X:Nat→Prop} {ι:bZ} {σ:aA} {w:World}
theorem lM {t:TypeId} {d:DV} (h:iT P t=some d):∃ v,(zeroValue t).run P w = .ok v w∧aX ι w (bQ X ι σ) d v:=by
 unfold iT at h
 cases hi:P.info? t with
 | none=>simp [hi] at h
 | some i =>
  cases hz:i.zero with
  | none=>simp [hi,hz] at h
  | some z=>simp [hi,hz] at h;exact ⟨z,by simp [zeroValue,typeInfo,hi,hz],EJ h⟩
theorem z1 {e:aW} {a:Act} (he:cR ι w (bQ X ι σ) e a) {parts:Array (Nat × Operand)} {vs:List (Nat × DV)}
  (h:parts.toList.mapM (fun p=>(e.ev p.2).bind fun v=>if pT v then some (p.1,v) else none)=some vs) :
  (parts.map fun (i,x)=>(i,a.eval x)).toList.length=vs.length∧∀ (i:Nat) p q,vs[i]? = some p→(parts.map fun (i,x)=>(i,a.eval x)).toList[i]? = some q→q.1=p.1∧aX ι w (bQ X ι σ) p.2 q.2∧pT p.2=true:=by
 obtain ⟨h1,h2⟩:=lZ h
 refine ⟨by simp [h1],fun i p q hp hq=>?_⟩
 have hi:i < parts.toList.length:=by rw [← h1];exact (List.getElem?_eq_some_iff.1 hp).1
 obtain ⟨x,hx⟩:∃ x,parts.toList[i]? = some x:=⟨_,List.getElem?_eq_getElem hi⟩
 obtain ⟨y,hy1,hy2⟩:=h2 i x hx
 rw [hp] at hy1
 cases hy1
 have hq':q=(x.1,a.eval x.2):=by
  rw [Array.toList_map,List.getElem?_map,hx] at hq
  cases hq;rfl
 subst hq'
 cases hv:e.ev x.2 with
 | none=>simp [hv] at hy2
 | some d =>
  simp [hv] at hy2
  obtain ⟨h3,rfl⟩:=hy2
  exact ⟨rfl,he.ev hv,h3⟩
theorem xS (P:Program) (w:World):∀ (fs:List Field),(∀ f ∈ fs,∃ i,P.info? f.type=some i) →
  (fs.mapM fun f=>do pure (f.offset,← sizeOf f.type):Sem (List (Nat × Nat))).run P w = .ok (fs.map fun f=>(f.offset,P.cellsOf f.type)) w
 | [],_=>by simp
 | f::fs,h=>by
  obtain ⟨i,hi⟩:=h f (by simp)
  have ih:=xS P w fs (fun g hg=>h g (by simp [hg]))
  simp only [List.mapM_cons,Sem.run_bind,cL hi,Result.andThen_ok,Sem.run_pure]
  rw [ih]
  simp [fJ hi]
theorem xC {p q:Nat→Option (Nat × Nat)}:∀ (parts:List (Nat × Value)) (cells:Array Value),(∀ x ∈ parts,p x.1=q x.1)→Instr.fill p cells parts=Instr.fill q cells parts
 | [],cells,h=>rfl
 | (i,v)::parts,cells,h=>by
  have h0:=h (i,v) (by simp)
  simp only at h0
  simp only [Instr.fill,h0]
  cases q i with
  | none=>rfl
  | some os =>
   obtain ⟨off,size⟩:=os
   dsimp only
   split
   ·rfl
   ·exact xC parts _ (fun x hx=>h x (by simp [hx]))
theorem CA {e:aW} {t:TypeId} {parts:Array (Nat × Operand)} {d:DV} {a:Act} (he:cR ι w (bQ X ι σ) e a) (h:aK P (.build t parts) e σ=some d) :
  ∃ v,(Instr.build t (parts.map fun (i,x)=>(i,a.eval x))).run P w = .ok v w∧aX ι w (bQ X ι σ) d v:=by
 simp only [aK] at h
 split at h
 ·rename_i hst
  unfold qI at hst
  split at hst
  ·rename_i fs hu
   split at h
   ·rename_i zs vs hz hvs
    obtain ⟨z,hz1,hz2⟩:=lM (w:=w) (ι:=ι) (σ:=σ) hz
    obtain ⟨zv,rfl,hz3⟩:=hz2.agg_l
    obtain ⟨hp1,hp2⟩:=z1 he hvs
    cases hf:rZ (iW P t) zs vs with
    | none=>simp [hf] at h
    | some r =>
     simp [hf] at h
     subst h
     obtain ⟨vr,hvr,hrel⟩:=xD vs _ zs zv r hz3 hp1 hp2 hf
     have hrow:∀ f ∈ fs.toList,∃ i,P.info? f.type=some i:=by
      intro f hf
      have:=(Array.all_eq_true'.1 hst) f (by simpa using hf)
      exact Option.isSome_iff_exists.1 this
     have hm:(fs.mapM fun f=>do pure (f.offset,← sizeOf f.type):Sem (Array (Nat × Nat))).run P w = .ok (fs.map fun f=>(f.offset,P.cellsOf f.type)) w:=by
      rw [← Array.toArray_toList (xs:=fs)]
      rw [List.mapM_toArray]
      simp only [Sem.run_map,xS P w fs.toList hrow,Result.andThen_ok]
      congr 1
      apply Array.toList_inj.1
      simp
     refine ⟨.agg vr,?_,.agg_of hrel⟩
     have hfc:Instr.fill ((fs.map fun f=>(f.offset,P.cellsOf f.type))[·]?) zv (parts.map fun (i,x)=>(i,a.eval x)).toList=some vr:=by
      rw [← hvr]
      refine xC _ _ (fun x hx=>?_)
      simp only [iW,hu,Array.getElem?_map]
      cases hg:fs[x.1]? with
      | none=>rfl
      | some g =>
       obtain ⟨i,hi⟩:=hrow g (by simpa using Array.mem_of_getElem? hg)
       simp [hi,fJ hi]
     simp only [Instr.build,Sem.run_bind,hz1,Result.andThen_ok,Value.cells,underlying,run_program,hu,Sem.run_pure,hm,hfc]
   ·cases h
  ·cases hst
 ·split at h
  ·rename_i n el sz hao
   unfold wW at hao
   split at hao
   ·rename_i n' el' hu
    cases hi:P.info? el' with
    | none=>simp [hi] at hao
    | some i =>
     simp [hi] at hao
     obtain ⟨rfl,rfl,rfl⟩:=hao
     split at h
     ·rename_i zs vs hz hvs
      obtain ⟨z,hz1,hz2⟩:=lM (w:=w) (ι:=ι) (σ:=σ) hz
      obtain ⟨zv,rfl,hz3⟩:=hz2.agg_l
      obtain ⟨hp1,hp2⟩:=z1 he hvs
      cases hf:rZ (fun j=>some (j * i.size,i.size)) zs vs with
      | none=>simp [hf] at h
      | some r =>
       simp [hf] at h
       subst h
       obtain ⟨vr,hvr,hrel⟩:=xD vs _ zs zv r hz3 hp1 hp2 hf
       refine ⟨.agg vr,?_,.agg_of hrel⟩
       simp only [Instr.build,Sem.run_bind,hz1,Result.andThen_ok,Value.cells,underlying,run_program,hu,Sem.run_pure,cL hi,hvr]
     ·cases h
   ·cases hao
  ·cases h
theorem OG {s:ByteArray} {i:Nat} (h:i < s.size):s[i]? = some s[i]∧bt s i=((s[i].toNat:Nat):Int):=by
 refine ⟨by simp [h],?_⟩
 have h':i < s.data.size:=h
 unfold bt
 have:s[i]=s.data[i]:=rfl
 rw [this,Array.getD_eq_getD_getElem?,Array.getElem?_eq_getElem h']
 rfl
theorem Q2 (s:ByteArray) (i:Nat):pU (.int .u8 (bt s i))=true:=by
 rw [pC]
 have:=(s.data.getD i 0).toNat_lt
 have h1:IntKind.u8.min=0:=rfl
 have h2:IntKind.u8.max=255:=by decide
 rw [h1,h2]
 unfold bt
 omega
theorem pF {t:TypeId} {cs:List DV} {vs:Array Value} {off:Nat} {d:DV} (hc:cM ι w (bQ X ι σ) cs vs.toList) (h:lX P t (cs.drop off)=some d) :
  ∃ v,(part t vs off).run P w = .ok v w∧aX ι w (bQ X ι σ) d v:=by
 unfold lX at h
 split at h
 ·rename_i hag
  obtain ⟨h1,i,hi⟩:=rL (w:=w) hag
  split at h
  ·rename_i hle
   cases h
   rw [fJ hi] at hle ⊢
   refine ⟨.agg (vs.extract off (off + i.size)),by simp [part,h1,cL hi],.agg_of ?_⟩
   have:=(hc.drop off).take i.size
   have e:(vs.extract off (off + i.size)).toList=(vs.toList.drop off).take i.size:=by
    rw [Array.toList_extract,List.extract_eq_take_drop,Nat.add_sub_cancel_left]
   rw [e]
   exact this
  ·cases h
 ·rename_i hag
  obtain ⟨h1,i,hi⟩:=rL (w:=w) hag
  have hx:cs[off]? = some d:=by rw [List.head?_eq_getElem?,List.getElem?_drop] at h;simpa using h
  have hl:off < vs.toList.length:=by rw [hc.len];exact (List.getElem?_eq_some_iff.1 hx).1
  have hl':off < vs.size:=by simpa using hl
  refine ⟨vs[off],by simp [part,h1,hl'],hc.get off d _ hx (by simp [hl'])⟩
 ·cases h
end
end Go.Ab
