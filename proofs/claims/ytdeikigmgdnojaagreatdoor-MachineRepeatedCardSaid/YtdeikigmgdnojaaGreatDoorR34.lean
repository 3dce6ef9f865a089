import Derived.Test.YtdeikigmgdnojaaGreatDoorR33
import Derived.Test.YtdeikigmgdnojaaGreatDoorR09
import Derived.Test.YtdeikigmgdnojaaGreatDoorR31
import Derived.Test.YtdeikigmgdnojaaGreatDoorR30
import Derived.Test.YtdeikigmgdnojaaGreatDoorR32
/- A part of the proof of one law. -/
set_option maxRecDepth 100000
set_option maxHeartbeats 8000000
set_option linter.unusedVariables false
set_option linter.unusedSimpArgs false
namespace Go.Ab
open Go
section
variable {c:List Fc} {t:Fm} {r ts:List Fm} {u:Tn}
def aAi (c:List Fc) (ts:List Fm) (u:Tn):Prop :=
 (ts=[]∧∃ v f,u=⟨true,d6,v,f⟩∧bH v=true∧zA f∧(f=kW∨v=g9))∨∃ t r,ts=t::r∧u=⟨false,bX c t (aN c t),g9,kW⟩∧N1 c ts
theorem aAb {f:Fa} {xs:List Fm} (hf:zA f) (h:dE c f xs = .turn ts u):aAi c ts u:=by
 unfold dE at h
 split at h
 ·cases h;exact .inl ⟨rfl,_,_,rfl,rfl,hf,.inr rfl⟩
 ·cases h
theorem aAu {n:Int} {p:Va × Fa} (hp:P7 p) (h:jW c t r n p.1 p.2 = .turn ts u):aAi c ts u:=by
 unfold jW at h
 split at h
 ·exact aAb hp.1 h
 ·cases h
theorem aAV (hc:dR c) (G:eK c (t::r)) (h:cE c t r = .turn ts u):aAi c ts u:=by
 have F:=G.top
 have I:=vG hc F
 unfold cE at h
 simp only at h
 generalize hx:aN c t=x at *
 by_cases e1:x.op=1
 ·rw [if_pos e1] at h;cases h
 rw [if_neg e1] at h
 by_cases e2:x.op=2
 ·rw [if_pos e2] at h;cases h
 rw [if_neg e2] at h
 by_cases e3:x.op=3
 ·rw [if_pos e3] at h;exact aAu (z7 _ _) h
 rw [if_neg e3] at h
 by_cases e4:x.op=4
 ·rw [if_pos e4] at h
  have hb:=I.bi e4
  refine aAu ?_ h
  have:=HG (op:=x.b) (by omega) (kR F x.c) (kR F (aC x.l 0))
  rwa [LE (by omega) (kR F x.c) (kR F (aC x.l 0))] at this
 rw [if_neg e4] at h
 by_cases e5:x.op=5
 ·rw [if_pos e5] at h;cases h
 rw [if_neg e5] at h
 by_cases e6:x.op=6
 ·rw [if_pos e6] at h
  split at h
  ·exact aAb (CS yM) h
  split at h <;> cases h
 rw [if_neg e6] at h
 by_cases e7:x.op=7
 ·rw [if_pos e7] at h
  split at h
  ·exact aAb (CS YL) h
  ·cases h
 rw [if_neg e7] at h
 by_cases e8:x.op=8
 ·rw [if_pos e8] at h
  cases r with
  | nil =>
   cases h
   refine .inl ⟨rfl,_,_,rfl,?_,XF,.inl rfl⟩
   split
   ·exact kR F _
   ·rfl
  | cons u r=>cases h
 rw [if_neg e8] at h
 by_cases e9:x.op=9
 ·rw [if_pos e9] at h
  refine aAb ?_ h
  split
  ·rename_i hk;exact CS (VF (kR F _) hk).2
  ·exact CS yM
 rw [if_neg e9] at h
 by_cases e10:x.op=10
 ·rw [if_pos e10] at h
  split at h
  ·rename_i hB
   cases h
   subst hx
   exact .inr ⟨t,r,rfl,rfl,G,fun t' r' e=>by cases e;exact ⟨e10,hB⟩⟩
  ·exact aAb (CS yM) h
 rw [if_neg e10] at h
 by_cases e11:x.op=11
 ·rw [if_pos e11] at h;cases h
 rw [if_neg e11] at h
 by_cases e12:x.op=12
 ·rw [if_pos e12] at h
  split at h
  ·cases h
  ·exact aAb (CS yM) h
 rw [if_neg e12] at h
 by_cases e13:x.op=13
 ·rw [if_pos e13] at h
  split at h <;> cases h
 rw [if_neg e13] at h
 refine aAb ?_ h
 split
 ·rename_i hk;exact G3 F hk.1
 ·exact CS yM
theorem aAt (hc:dR c):∀ (n:Nat) (xs:List Fm),eK c xs→sQ c n xs=some (ts,u)→aAi c ts u
 | _,[],G,h=>by cases G.ch
 | 0,_::_,_,h=>by cases h
 | n + 1,t::r,G,h=>by
  simp only [sQ] at h
  cases hs:cE c t r with
  | more ts'=>rw [hs] at h;exact aAt hc n ts' (rN hc G hs) h
  | turn ts' u'=>rw [hs] at h;cases h;exact aAV hc G hs
theorem aAr:∀ {ts:List Fm},vA c ts→(∀ (j:Nat) a b,ts[j]? = some a→ts[j + 1]? = some b→SZ c a b)∧∀ a,ts[ts.length - 1]? = some a→a.to=-1
 | [],h=>by cases h
 | [t],h=>⟨fun j a b h1 h2=>by simp at h2,fun a h1=>by simp at h1;subst h1;exact h⟩
 | t::u::r,h=>by
  obtain ⟨h1,h2⟩:=aAr h.2
  refine ⟨fun j a b g1 g2=>?_,fun a g=>?_⟩
  ·cases j with
   | zero=>simp at g1 g2;subst g1 g2;exact h.1
   | succ j=>exact h1 j a b (by simpa using g1) (by simpa using g2)
  ·refine h2 a ?_
   simpa using g
theorem aAp (R:N1 c ts):d9 c ts.reverse=true:=by
 have hne:ts≠[]:=by rintro rfl;cases R.g.ch
 have hn:=R.g.n
 have hl:0 < ts.length:=by cases ts with | nil=>exact absurd rfl hne | cons a l=>simp
 obtain ⟨c1,c2⟩:=aAr R.g.ch
 have hget:∀ i:Nat,i < ts.length→ts[ts.length - 1 - i]? = some (aC ts.reverse (i:Int)):=fun i hi=>by
  rw [bK (by simpa using hi),List.getElem_reverse,List.getElem?_eq_getElem (by omega)]
 have h0:¬ (ts.reverse.length:Int)=0∧¬ (ts.reverse.length:Int) > 24∧(aC ts.reverse 0).to=-1:=by
  refine ⟨by simp;omega,by simp;omega,?_⟩
  have:=hget 0 hl
  rw [Nat.sub_zero] at this
  exact c2 _ this
 refine zM h0 fun i hi=>?_
 have hi:i < ts.length:=by simpa using hi
 have hm:=List.mem_of_getElem? (hget i hi)
 have hfm:tK c (aC ts.reverse (i:Int))=false:=uQ.2 (R.g.fr _ hm)
 unfold jN
 rw [hfm,Bool.false_or,List.length_reverse,show iA ((ts.length:Int) - 1)=(ts.length:Int) - 1 from aL (by omega) (by omega),show iA ((i:Int) + 1)=((i + 1:Nat):Int) from (aL (by omega) (by omega)).trans (by omega)]
 by_cases hlt:(i:Int) < (ts.length:Int) - 1
 ·rw [decide_eq_true hlt,cond_true]
  have g1:=hget i hi
  have g2:=hget (i + 1) (by omega)
  have:=c1 (ts.length - 1 - (i + 1)) _ _ g2 (by rw [show ts.length - 1 - (i + 1) + 1=ts.length - 1 - i by omega];exact g1)
  unfold uT
  rw [decide_eq_false (by rw [this.1];simp),decide_eq_false (by rw [this.2.1];simp),decide_eq_false (by rw [this.2.2];simp)]
  rfl
 ·rw [decide_eq_false hlt,cond_false]
  have g1:=hget i hi
  rw [show ts.length - 1 - i=0 by omega] at g1
  cases ts with
  | nil=>exact absurd rfl hne
  | cons a l =>
   simp only [List.getElem?_cons_zero,Option.some.injEq] at g1
   rw [← g1]
   obtain ⟨h1,h2⟩:=R.top a l rfl
   unfold rF
   rw [h1,h2];rfl
def aAl (c:List Fc) (p:List Fm × Tn × Int):Prop :=
 (p.2.2≠0∧p.1=[]∧p.2.1=iK)∨(p.2.2=0∧∃ ts,p.1=ts.reverse∧aAi c ts p.2.1)
theorem aAw (hc:dR c) {xs:List Fm} {n:Nat} (G:eK c xs):aAl c (oL (sQ c n xs)):=by
 cases h:sQ c n xs with
 | none=>exact .inl ⟨by show (7:Int)≠0;decide,rfl,rfl⟩
 | some p=>obtain ⟨ts,u⟩:=p;exact .inr ⟨rfl,ts,rfl,aAt hc n xs G h⟩
theorem aAe {p:List Fm × Tn × Int} (h:aAl c p) (h0:p.2.2=0) (hd:p.2.1.done=false):d9 c p.1=true:=by
 rcases h with ⟨h1,_⟩ | ⟨_,ts,h2,h3⟩
 ·exact absurd h0 h1
 ·rcases h3 with ⟨_,v,f,h4,_⟩ | ⟨t,r,_,_,R⟩
  ·rw [h4] at hd;cases hd
  ·rw [h2];exact aAp R
theorem aAf {fn:Int} {args:List Va} (h:cC c=0):aAl c (mB c fn args):=by
 rw [KC h]
 unfold mP
 cases hq:lT c fn args with
 | false=>rw [if_pos rfl];exact .inl ⟨by show (2:Int)≠0;decide,rfl,rfl⟩
 | true=>rw [if_neg (by simp)];exact aAw (eL h) (sE (eL h) hq)
theorem aAo (hc:dR c) (F:jS c t) {x:In}:(bX c t x).arms.length≤4000:=by
 have e:(bX c t x).arms.length≤(fP c t).length:=by
  unfold bX
  repeat' split
  all_goals simp
 have hq:(fP c t).length≤4000:=by
  show (d5 (aC c t.fn).code t.pc.toNat).length≤4000
  unfold d5
  rw [List.length_take,List.length_drop]
  have:=(oB hc F).hd.n1
  omega
 omega
theorem aAk (hc:dR c) (R:N1 c (t::r)) {a:An} (h:¬ i3 (bX c t (aN c t)) a≠0):eK c (dS (iV t (aN c t) a)::r):=by
 have G:=R.g
 have F:=G.top
 have h10:=(R.top t r rfl).1
 have hgo:=rC hc F (by rw [h10];rfl)
 obtain ⟨hav,hfo,hix⟩:=xG (fun _=>aAo hc F) h
 have key:∀ {t1:Fm},jS c t1→t1.fn=t.fn→t1.pc=t.pc→t1.to=t.to→jS c (dS t1)∧(dS t1).fn=t.fn∧(dS t1).to=t.to:=fun F1q e1 e2 e3=>⟨F1q.adv (by rw [e1,e2];exact hgo),e1,e3⟩
 have main:jS c (dS (iV t (aN c t) a))∧(dS (iV t (aN c t) a)).fn=t.fn∧(dS (iV t (aN c t) a)).to=t.to:=by
  unfold iV
  simp only
  split <;> split
  ·exact key ((F.put hav).put hix) rfl rfl rfl
  ·exact key (F.put hix) rfl rfl rfl
  ·exact key (F.put hav) rfl rfl rfl
  ·exact key F rfl rfl rfl
 exact G.head main.2.1 main.2.2 main.1
theorem aAG {fs:List Fm} {a:An} (h:cC c=0):aAl c (v6 c fs a):=by
 have hc:=eL h
 unfold v6
 rw [if_neg (by simpa using h)]
 cases hg:d9 c fs with
 | false=>rw [if_pos rfl];exact .inl ⟨by show (2:Int)≠0;decide,rfl,rfl⟩
 | true =>
  rw [if_neg (by simp)]
  have R:=FV hg
  cases hr:fs.reverse with
  | nil=>rw [hr] at R;cases R.g.ch
  | cons t r =>
   rw [hr] at R
   show aAl c (iG c t r a)
   unfold iG
   split
   ·rename_i h1;exact .inl ⟨h1,rfl,rfl⟩
   ·rename_i h1
    have hfo:=(xG (fun _=>aAo hc R.g.top) h1).2.1
    split
    ·have hRG:=pH hc hfo _ R.g.n R.g.fr (.inr R.g.ch)
     split
     ·exact .inr ⟨rfl,[],rfl,.inl ⟨rfl,_,_,rfl,rfl,hfo,.inr rfl⟩⟩
     ·rename_i h2
      have G2q:=hRG.resolve_left h2
      rw [s7 hc G2q]
      exact aAw hc G2q
    ·have G2q:=aAk hc R h1
     rw [s7 hc G2q]
     exact aAw hc G2q
end
section
variable {P:Program} {X:Nat→Prop} {ι:bZ} {σ:aA} {w:World}
theorem aAH {e:aW} {o:Oper} {a:Act} {nid len sz:Nat} {t el:TypeId} {parts:Array (Nat × Operand)} {vs:List DV} (he:cR ι w (bQ X ι σ) e a) (hh:aQ P X ι σ w) (hn:ι nid=none) (hl:nid≤σ.length) (hop:o.op = .buildSlice t len parts)
  (hel:dU P t=some (el,sz)) (hvs:parts.toList.mapM (fun p=>e.ev p.2)=some vs) (hp:parts.toList.map (·.1)=List.range len) (hall:vs.all (fun d=>eO d && (aH d).length == sz)=true) (hlen:len≤16777216) (hlsz:len * sz≤16777216) (hz:((P.info? el).bind (·.zero)).isSome=true) :
  ∃ v ι' w',(execOp a.eval o).run P w = .ok (.value v) w'∧Comes' P X ι σ (σ.put nid (some (.arr el (vs.map aH)))) w ι' w'∧aX ι' w' (bQ X ι' (σ.put nid (some (.arr el (vs.map aH))))) (.arr nid) v∧∀ i,i≠nid→ι' i=ι i:=by
 obtain ⟨hu,inf,hinf,rfl⟩:=fE hel
 have hcells:P.cellsOf el=inf.size:=fJ hinf
 have hca:vs.all eO=true:=List.all_eq_true.2 (fun x hx=>by have:=List.all_eq_true.1 hall x hx;simp only [Bool.and_eq_true] at this;exact this.1)
 have hcs:∀ x ∈ vs,(aH x).length=inf.size:=fun x hx=>by have:=List.all_eq_true.1 hall x hx;simp only [Bool.and_eq_true,beq_iff_eq] at this;exact this.2
 obtain ⟨h1,h2,h3⟩:=ML he hvs hca
 have hvl:vs.length=len:=by rw [h2];have:=congrArg List.length hp;simpa using this
 rw [hinf] at hz
 obtain ⟨cells,hrun,hcl⟩:=qO (P:=P) (w:=w) (ρ:=a.eval) hu hinf hz hp (fun p hpm=>by
  obtain ⟨i,hi⟩:=List.mem_iff_getElem?.1 hpm
  have hil:i < vs.length:=by rw [h2];exact (List.getElem?_eq_some_iff.1 hi).1
  have:=h3 i _ p (List.getElem?_eq_getElem hil) hi
  rw [this]
  exact hcs _ (List.getElem_mem hil)) hlsz
 rw [← hcl] at h1
 have hexec:(execOp a.eval o).run P w = .ok (.value (.slice (some ⟨w.heap.size,0,none⟩) len len)) { w with heap:=w.heap.push (.cells cells el) }:=by
  simp only [execOp,hop,Sem.run_bind,hrun,Result.andThen_ok,Sem.run_pure]
 have hes:∀ e' ∈ vs.map aH,e'.length=inf.size:=by
  intro e' he'
  obtain ⟨x,hx,rfl⟩:=List.mem_map.1 he'
  exact hcs x hx
 have hesc:∀ e' ∈ vs.map aH,∀ q ∈ e',f7 q=true:=by
  intro e' he' q hq
  obtain ⟨x,hx,rfl⟩:=List.mem_map.1 he'
  have:=List.all_eq_true.1 hca x hx
  simp only [eO,Bool.and_eq_true] at this
  exact List.all_eq_true.1 this.2 q hq
 obtain ⟨ι',hc2,hid,hoth⟩:=FO (el:=el) (es:=vs.map aH) (c:=len) (cells:=cells) hh hn hl (by rw [hcells];exact hes) hesc (by simp [hvl]) (by simp only [gY];simp;omega)
  (by
   rw [hcells]
   have:=h1.len
   rw [eE _ hes] at this
   simp [hvl] at this
   omega)
  (by
   have hfl:cells.toList.length=(vs.map aH).length * inf.size:=by rw [h1.len,eE _ hes]
   rw [hcells,List.take_of_length_le (by omega)]
   exact h1)
 exact ⟨_,ι',_,hexec,hc2,.arr nid _ (by simpa [hvl] using hid) ⟨_,_,_,rfl⟩,hoth⟩
variable {nt:Nat} {Q:Exit→aW→aA→Prop} {e:aW}
theorem aAJ {id a b sz:Nat} {t0 sl el ty1 ty2:TypeId} {x:Operand} {p1 p2:String} {f1 f2:Array Edge} {rest:List Oper} {v:DV} (ha:fQ nt (some a)=true) (hb:fQ nt (some b)=true) (hops:rest.all (i0 nt)=true) (hel:dU P sl=some (el,sz)) (hz:((P.info? el).bind (·.zero)).isSome=true)
  (h0:Ev P (.load t0 x) e σ σ.length v σ) (hv:(eO v && (aH v).length == sz)=true) (hsz:Nat.ble sz 16777216=true)
  (h:WS P nt ((⟨some a,.load t0 x,ty1,p1,f1,none⟩:Oper)::⟨some b,.buildSlice sl 1 #[(0,.tmp a)],ty2,p2,f2,none⟩::rest).toArray rest ((e.put (some a) v).put (some b) (.arr σ.length)) (σ++[some (.arr el [aH v])]) (Q .normal)) :
  AC P nt (.region id ((⟨some a,.load t0 x,ty1,p1,f1,none⟩:Oper)::⟨some b,.buildSlice sl 1 #[(0,.tmp a)],ty2,p2,f2,none⟩::rest).toArray false) e σ Q:=by
 have ha':a < nt:=by simpa [fQ] using ha
 have hb':b < nt:=by simpa [fQ] using hb
 refine ⟨fun X w0 ι0 σ0 ι ac w hst=>?_⟩
 refine wp_region ?_
 rw [List.range_eq_range']
 have hn:Array.size ((⟨some a,.load t0 x,ty1,p1,f1,none⟩:Oper)::⟨some b,.buildSlice sl 1 #[(0,.tmp a)],ty2,p2,f2,none⟩::rest).toArray=(rest.length + 1) + 1:=by simp
 rw [hn,List.range'_succ,List.range'_succ]
 have hs:r9 P nt (⟨some a,.load t0 x,ty1,p1,f1,none⟩:Oper) e σ (fun e' σ'=>e'=e.put (some a) v∧σ'=σ):=by
  refine ⟨by simpa [i0] using ha',?_⟩
  have:=h0.h
  simp only [this]
  exact ⟨trivial,trivial⟩
 simp only [wpOps]
 refine .inl (yL hst hs fun e' σ' ι' a' w' ⟨he,hσ⟩ hst'=>?_)
 subst he hσ
 have hh:=hst'.comes.heap
 obtain ⟨u,ι2,w2,hex,hc,hr,hk⟩:=aAH (o:=(⟨some b,.buildSlice sl 1 #[(0,.tmp a)],ty2,p2,f2,none⟩:Oper)) (nid:=σ'.length) (vs:=[v]) hst'.env hh (hh.fresh _ (Nat.le_refl _)) (Nat.le_refl _) rfl hel
  (by simp [aW.ev,aW.get_put]) rfl (by simpa using hv) (by decide) (by have:=Nat.le_of_ble_eq_true hsz;omega) hz
 have hput:σ'.put σ'.length (some (.arr el ([v].map aH)))=σ'++[some (.arr el [aH v])]:=by rw [aA.put_eq,if_neg (Nat.lt_irrefl _)];rfl
 rw [hput] at hc hr
 have hst2:=(hst'.stepD hc (fun i hi=>hk i (Nat.ne_of_lt (Nat.lt_of_lt_of_le hi hst'.comes.len))) (by rw [List.length_append];omega)).put (o:=some b) (fun t ht=>by cases ht;exact hb') hr
 have key:Oper.wp P (⟨some b,.buildSlice sl 1 #[(0,.tmp a)],ty2,p2,f2,none⟩:Oper) a' w' (wpOps P ((⟨some a,.load t0 x,ty1,p1,f1,none⟩:Oper)::⟨some b,.buildSlice sl 1 #[(0,.tmp a)],ty2,p2,f2,none⟩::rest).toArray (fun ex a' w'=>∃ ι' e' σ',Q ex e' σ'∧St P X nt w0 ι0 σ0 ι' e' σ' a' w') (List.range' 2 rest.length)) (fun ex a' w'=>∃ ι' e' σ',Q ex e' σ'∧St P X nt w0 ι0 σ0 ι' e' σ' a' w'):=by
  unfold Oper.wp
  rw [hex]
  refine rM (K:=Q .normal) (fun j o t hj ht=>?_) (fun e' σ' ι' a' w' hk hst'=>⟨ι',e',σ',hk,hst'⟩) rest 2 _ _ ι2 _ _ (fun j=>by rw [List.getElem?_toArray,Nat.add_comm];rfl) hst2 h.h
  rw [List.getElem?_toArray] at hj
  match j,hj with
  | 0,hj=>simp at hj;subst hj;cases ht;exact ha'
  | 1,hj=>simp at hj;subst hj;cases ht;exact hb'
  | j + 2,hj =>
   have:=(List.all_eq_true.1 hops) o (List.mem_of_getElem? (by simpa using hj))
   simpa [i0,ht] using this
 exact .inl key
end
end Go.Ab
namespace Go.Ab
open Go Go.Ab.Tryz Go.Proofs
def aAa (c:List Fc):List An→List Fm→Tn→List Tn × Int
 | [],_,t=>([t],0)
 | a::bs,fs,t=>if t.done=true then ([],10) else
  let p:=v6 c fs a
  if p.2.2≠0 then ([],p.2.2) else
   let q:=aAa c bs p.1 p.2.1
   if q.2≠0 then ([],q.2) else (t::q.1,0)
def aAc (c:List Fc) (fn:Int) (args:List Va) (ans:List An):List Tn × Int :=
 if cC c≠0 then ([],cC c) else if lT c fn args=false then ([],2) else
  let p:=mB c fn args
  if p.2.2≠0 then ([],p.2.2) else if (ans.length:Int) > 400 then ([],5) else aAa c ans p.1 p.2.1
def aAj (l:List Tn) (q:List Tn × Int):List Tn × Int:=if q.2≠0 then ([],q.2) else (l++q.1,0)
theorem aAD {q:List Tn × Int} (h:q.2≠0→q.1=[]):aAj [] q=q:=by
 obtain ⟨l,n⟩:=q
 unfold aAj
 split
 ·rename_i h1;rw [← h h1]
 ·rename_i h1;simp at h1;subst h1;rfl
theorem aAm (c:List Fc):∀ (bs:List An) (fs:List Fm) (t:Tn),(aAa c bs fs t).2≠0→(aAa c bs fs t).1=[]
 | [],_,_,h=>absurd rfl h
 | a::bs,fs,t,h=>by
  unfold aAa at h ⊢
  simp only at h ⊢
  split at h
  ·rename_i h1;rw [if_pos h1]
  ·rename_i h1;rw [if_neg h1]
   split at h
   ·rename_i h2;rw [if_pos h2]
   ·rename_i h2;rw [if_neg h2]
    split at h
    ·rename_i h3;rw [if_pos h3]
    ·exact absurd rfl h
theorem aAs {l:List Tn} {t:Tn} {q:List Tn × Int}:aAj l (if q.2≠0 then ([],q.2) else (t::q.1,0))=aAj (l++[t]) q:=by
 unfold aAj
 by_cases h:q.2=0 <;> simp [h]
abbrev aAL (q:List Tn × Int):DV := .tup [lv (q.1.map Tn.enc),iv q.2]
theorem aAU {c:List Fc} {fn:Int} {args:List Va} (h1:cC c=0) (h2:lT c fn args=true):bY Tryz.prog 45 [.agg [bC c],iv fn,lv (args.map Va.enc)] (dZ (mB c fn args)):=by
 have hc:=eL h1
 obtain ⟨f0,f1,f2,f3⟩:=uI.1 h2
 have hs:0≤(aC c fn).slots∧(aC c fn).slots≤200∧args.length≤(aC c fn).slots.toNat:=by
  have hd:=(hc.fs _ (dM f0 f1)).hd
  have:=hd.p0;have:=hd.s0;have:=hd.s1;omega
 have:=M5 c fn args f0 f1 hs.1 hs.2.1 hs.2.2 (eK c) (fun t r G=>⟨sR hc G,fun u hu=>m4 hc ((BM hc G).2 u hu)⟩) (fun t r G=>(BM hc G).1) (fun t r ts G h=>by rw [FR hc G] at h;exact rN hc G h) (fun G=>G.ch) (sE hc h2)
 unfold mB
 rw [if_neg (by simpa using h1),if_neg (by rw [h2];simp)]
 exact this
theorem aAY (c:List Fc) (fn:Int) (args:List Va) (ans:List An):aB Tryz.prog 30 [.agg [bC c],iv fn,lv (args.map Va.enc),lv (ans.map An.enc)] [] (fun r s=>cA Tryz.prog s r (aAL (aAc c fn args ans))):=by
 refine aB.assume rfl fun hok _=>?_
 have hlen:=dK (hok (lv (ans.map An.enc)) eS)
 simp only [List.length_map] at hlen
 unfold aAc
 have h5:=fun a b=>aAU (c:=c) (fn:=fn) (args:=args) a b
 have hO:=fun a=>aAf (c:=c) (fn:=fn) (args:=args) a
 revert h5 hO
 generalize mB c fn args=p
 obtain ⟨fs0,t0,n0⟩:=p
 intro h5 hO
 refine fW Tryz.func30 rfl rfl (nB rfl) ?_
 rw [Tryz.ntmps30]
 repeat' (first | ((with_reducible refine kw ?_);first | refine W0 ?_ | refine W1 ?_ | refine W3 ?_ | refine W2 ?_ | refine W6 ?_ | refine bJ ?_ | (refine aJ ?_;first | refine tD (oA c) ?_ | refine tD (EV c fn args) ?_ | refine bB rfl rfl rfl rfl (bY.at (h5 (Decidable.not_not.1 (oF ‹decide (cC c≠0)=false›)) (by simpa using ‹(!lT c fn args)=false›)) rfl rfl ?_) | refine tD (JQ c fs a h0 (hg ‹t.done=false›)) ?_) | (refine aE ?_;refine q8 ?_) | refine gQ ?_ | refine iZ ?_ | refine gZ ?_ | refine cW ?_ | refine dH ?_ | refine KS ?_ | (refine vQ ?_;refine ZD ?_)) | ((with_reducible refine ka ?_);((with_reducible refine i5 11 ?_);refine fI ?_;refine aAJ rfl rfl rfl (el rfl) rfl (BR (ag rfl) (sz rfl) rfl rfl rfl rfl) rfl rfl ?_)) | refine GA ?_ | refine GG ?_ | (refine cJ (fun hb=>?_) (fun hb=>?_) <;> try rw [hb]) | ((with_reducible refine tO ?_);refine j7 Tryz.results30 rfl ?_) | refine GS ?_ | fail)
 all_goals first
  | (have h1:=oT ‹decide (cC c≠0)=true›;rw [if_pos h1];exact cA.tup (.cons cA.d (.cons .sc .nil)))
  | (have h1:=oF ‹decide (cC c≠0)=false›;have h2:lT c fn args=false:=(by simpa using ‹(!lT c fn args)=true›);rw [if_neg h1,if_pos h2];exact cA.tup (.cons cA.d (.cons .sc .nil)))
  | (have h1:=oF ‹decide (cC c≠0)=false›;have h2:lT c fn args=true:=(by simpa using ‹(!lT c fn args)=false›);rw [if_neg h1,if_neg (by rw [h2];simp)];have h3:=oT ‹decide (n0≠0)=true›;simp only;rw [if_pos h3];exact cA.tup (.cons cA.d (.cons .sc .nil)))
  | (have h1:=oF ‹decide (cC c≠0)=false›;have h2:lT c fn args=true:=(by simpa using ‹(!lT c fn args)=false›);rw [if_neg h1,if_neg (by rw [h2];simp)];have h3:=oF ‹decide (n0≠0)=false›;have h4:=oT ‹decide ((ans.length:Int) > 400)=true›;simp only;rw [if_neg h3,if_pos h4];exact cA.tup (.cons cA.d (.cons .sc .nil)))
  | skip
 have h0:cC c=0:=Decidable.not_not.1 (oF ‹decide (cC c≠0)=false›)
 have h2:lT c fn args=true:=by simpa using ‹(!lT c fn args)=false›
 have h3:=oF ‹decide (n0≠0)=false›
 have h4:=oF ‹decide ((ans.length:Int) > 400)=false›
 rw [if_neg (by simpa using h0),if_neg (by rw [h2];simp)]
 simp only
 rw [if_neg h3,if_neg h4]
 have hO:=hO h0
 have hg0:t0.done=false→d9 c fs0=true:=fun hd=>aAe hO (Decidable.not_not.1 h3) hd
 generalize hR:aAa c ans fs0 t0=R
 have hR0:R=aAj [] (aAa c (ans.drop 0) fs0 t0):=by rw [List.drop_zero,hR,aAD];intro h;subst hR;exact aAm c _ _ _ h
 refine dB (kK 42 ?_)
 refine dB (qR 14 (m:=3) (s:=[t0.enc]) rfl rfl rfl rfl fun u=>?_)
 refine cF [4,11,12,14,43,44,45] rfl ?_
 refine jY 4 (n:=_) (fun n e σ=>∃ (i:Nat) (m:Int) (fs:List Fm) (t:Tn) (ts0:List Tn) (u:Value),n=ans.length - i∧(m=i∧i≤ans.length∧(t.done=false→d9 c fs=true)∧R=aAj ts0 (aAa c (ans.drop i) fs t)∧ts0.length=i)∧e=[(4,_),(11,lv (fs.map Fm.enc)),(12,_),(14,.d (.sc u)),(43,_),(44,_),(45,iv m)]∧σ=[some (.box 24 [bC c]),some (.box 42 (t.enc.map .d)),none,some (bS Tryz.prog 42 [(u,(ts0++[t]).map Tn.enc)])]) rfl ⟨0,0,fs0,t0,[],u,rfl,⟨rfl,Nat.zero_le _,hg0,hR0,rfl⟩,rfl,rfl⟩ ?_
 rintro n e σ ⟨i,m,fs,t,ts0,u,rfl,⟨rfl,hi,hg,hR1,hl0⟩,rfl,rfl⟩
 refine dB (wK 14 (m:=3) rfl hP rfl ?_)
 by_cases hlt:i < ans.length
 ·have hb:decide ((i:Int) < (ans.length:Int))=true:=decide_eq_true aI
  obtain ⟨a,ha⟩:∃ a,aC ans (i:Int)=a:=⟨_,rfl⟩
  have hd:ans.drop i=a::ans.drop (i + 1):=by rw [← ha,bK hlt];exact List.drop_eq_getElem_cons hlt
  rw [hd] at hR1
  have hgo:=@aAG c fs a h0
  by_cases hdn:t.done=true
  ·have hdn':t.done=true:=hdn
   repeat' (first | ((with_reducible refine kw ?_);first | refine W0 ?_ | refine W1 ?_ | refine W3 ?_ | refine W2 ?_ | refine W6 ?_ | refine bJ ?_ | (refine aJ ?_;refine bB rfl rfl rfl rfl (skip)) | (refine fO ?_;refine cK (aF (el rfl) rfl rfl aI aI ⟨rfl,by decide⟩) rfl rfl ?_) | (refine aE ?_;refine q8 ?_) | refine gQ ?_ | refine iZ ?_ | refine gZ ?_ | refine cW ?_ | refine dH ?_ | refine KS ?_ | (refine vQ ?_;refine ZD ?_)) | ((with_reducible refine ka ?_);((with_reducible refine i5 15 ?_);(try rw [ha]);refine fI ?_)) | refine GA ?_ | refine GG ?_ | (refine cJ (fun hb=>?_) (fun hb=>?_) <;> try rw [hb]) | ((with_reducible refine tO ?_);refine j7 Tryz.results30 rfl ?_) | refine GS ?_ | fail)
   have e:aAa c (a::ans.drop (i + 1)) fs t=([],10):=by unfold aAa;rw [if_pos hdn]
   rw [hR1,e]
   exact cA.tup (.cons cA.d (.cons .sc .nil))
  ·have hdn':t.done=false:=by simpa using hdn
   have hon:=JQ c fs a h0 (hg hdn')
   have hal:aAa c (a::ans.drop (i + 1)) fs t=(if (v6 c fs a).2.2≠0 then ([],(v6 c fs a).2.2) else if (aAa c (ans.drop (i + 1)) (v6 c fs a).1 (v6 c fs a).2.1).2≠0 then ([],(aAa c (ans.drop (i + 1)) (v6 c fs a).1 (v6 c fs a).2.1).2) else (t::(aAa c (ans.drop (i + 1)) (v6 c fs a).1 (v6 c fs a).2.1).1,0)):=by
    conv=>lhs;unfold aAa
    rw [if_neg hdn]
   revert hgo hon hal
   generalize v6 c fs a=p
   obtain ⟨l,u',n⟩:=p
   intro hgo hon hal
   simp only at hal
   repeat' (first | ((with_reducible refine kw ?_);first | refine W0 ?_ | refine W1 ?_ | refine W3 ?_ | refine W2 ?_ | refine W6 ?_ | refine bJ ?_ | (refine aJ ?_;refine tD hon ?_) | (refine fO ?_;refine cK (aF (el rfl) rfl rfl aI aI ⟨rfl,by decide⟩) rfl rfl ?_) | (refine aE ?_;refine q8 ?_) | refine gQ ?_ | refine iZ ?_ | refine gZ ?_ | refine cW ?_ | refine dH ?_ | refine KS ?_ | (refine vQ ?_;refine ZD ?_)) | ((with_reducible refine ka ?_);((with_reducible refine i5 15 ?_);(try rw [ha]);refine fI ?_)) | refine GA ?_ | refine GG ?_ | (refine cJ (fun hb=>?_) (fun hb=>?_) <;> try rw [hb]) | ((with_reducible refine tO ?_);refine j7 Tryz.results30 rfl ?_) | refine GS ?_ | fail)
   ·have h6:=oT ‹decide (n≠0)=true›
    rw [if_pos h6] at hal
    rw [hR1,hal]
    unfold aAj
    rw [if_pos h6]
    exact cA.tup (.cons cA.d (.cons .sc .nil))
   ·have h6:=oF ‹decide (n≠0)=false›
    rw [if_neg h6] at hal
    have hgl:R=aAj (ts0++[t]) (aAa c (ans.drop (i + 1)) l u'):=by
     rw [hR1,hal];exact aAs
    refine gE (qR 14 (m:=3) (s:=((ts0++[t])++[u']).map Tn.enc) rfl rfl (by simp [aO]) rfl fun u2=>?_)
    refine gE (jM [4,11,12,14,43,44,45] rfl ?_)
    refine gU 4 rfl rfl rfl ?_
    refine gT ⟨_,?_,i + 1,_,l,u',ts0++[t],u2,rfl,⟨aL aI aI,by omega,fun hd=>aAe hgo (Decidable.not_not.1 h6) hd,hgl,by simp [hl0]⟩,rfl,rfl⟩
    omega
 ·have hb:decide ((i:Int) < (ans.length:Int))=false:=decide_eq_false aI
  have e:i=ans.length:=by omega
  subst e
  rw [List.drop_length] at hR1
  repeat' (first | ((with_reducible refine kw ?_);first | refine W0 ?_ | refine W1 ?_ | refine W3 ?_ | refine W2 ?_ | refine W6 ?_ | refine bJ ?_ | (refine aJ ?_;refine bB rfl rfl rfl rfl (skip)) | (refine fO ?_;refine cK (aF (el rfl) rfl rfl aI aI ⟨rfl,by decide⟩) rfl rfl ?_) | (refine aE ?_;refine q8 ?_) | refine gQ ?_ | refine iZ ?_ | refine gZ ?_ | refine cW ?_ | refine dH ?_ | refine KS ?_ | (refine vQ ?_;refine ZD ?_)) | ((with_reducible refine ka ?_);((with_reducible refine i5 15 ?_);(try rw [ha]);refine fI ?_)) | refine GA ?_ | refine GG ?_ | (refine cJ (fun hb=>?_) (fun hb=>?_) <;> try rw [hb]) | ((with_reducible refine tO ?_);refine j7 Tryz.results30 rfl ?_) | refine GS ?_ | fail)
  have hR2:R=(ts0++[t],0):=by rw [hR1];rfl
  rw [hR2]
  refine cA.tup (.cons (cA.arr rfl (by simp [aO]) (fun k e he=>?_)) (.cons .sc .nil))
  simp only [aO,List.getElem?_map] at he
  obtain ⟨r,hr,rfl⟩:=Option.map_eq_some_iff.1 he
  exact ⟨r,by rw [List.getElem?_map];exact hr,kO r⟩
theorem aAg (c:List Fc) (fn:Int) (args:List Va) (ans:List An):bY Tryz.prog 30 [.agg [bC c],iv fn,lv (args.map Va.enc),lv (ans.map An.enc)] (aAL (aAc c fn args ans)):=aB.frozen (aAY c fn args ans) fun r s h=>h
theorem aAd (l:List Tn):bY Tryz.prog 32 [lv (l.map Tn.enc),lv (l.map Tn.enc)] (bv true):=by
 refine aB.assume rfl fun hok _=>?_
 have hlen:=dK (hok (lv (l.map Tn.enc)) eS)
 simp only [List.length_map] at hlen
 have hne:decide ((l.length:Int)≠(l.length:Int))=false:=by simp
 refine of_body Tryz.func32 rfl rfl (nB rfl) ?_
 rw [Tryz.ntmps32]
 repeat' (first | ((with_reducible refine kw ?_);first | refine W0 ?_ | refine W6 ?_ | refine bJ ?_ | refine gZ ?_) | refine GN ?_ | ((with_reducible refine kd ?_);first | refine D0 ?_ | refine D3 ?_ | refine KV ?_) | refine GA ?_ | refine GG ?_ | (refine cJ (fun hb=>?_) (fun hb=>?_) <;> try rw [hb]) | ((with_reducible refine kf ?_);refine aP 0 Tryz.results32 rfl rfl rfl ?_) | refine GR ?_ | ((with_reducible refine kr ?_);refine aG rfl ?_) | fail)
 refine cF [0,1,5] rfl ?_
 refine i2 (n:=_) (fun n e σ=>∃ (i:Nat) (m:Int),n=l.length - i∧(m=i∧i≤l.length)∧e=[(0,_),(1,_),(5,iv m)]∧σ=_) ⟨0,0,rfl,⟨rfl,Nat.zero_le _⟩,rfl,rfl⟩ ?_
 rintro n e σ ⟨i,m,rfl,⟨rfl,hi⟩,rfl,rfl⟩
 repeat' (first | ((with_reducible refine kw ?_);first | refine W0 ?_ | refine W6 ?_ | refine bJ ?_ | refine gZ ?_) | refine GN ?_ | ((with_reducible refine kd ?_);first | refine D0 ?_ | refine D3 ?_ | (refine bM ?_;refine dD (l4 (aC l (i:Int))) ?_) | (refine c7 ?_;refine dC (aF (el rfl) rfl rfl aI VU ⟨rfl,by decide⟩) rfl rfl rfl rfl ?_) | refine KV ?_) | refine GA ?_ | refine GG ?_ | refine qF cN ?_ | (refine cJ (fun hb=>?_) (fun hb=>?_) <;> try rw [hb]) | ((with_reducible refine kf ?_);refine aP 0 Tryz.results32 rfl rfl rfl ?_) | refine GR ?_ | ((with_reducible refine kr ?_);refine aG rfl ?_) | fail)
 all_goals first
  | (have hlt:=oT ‹decide ((i:Int) < (l.length:Int))=true›;refine ⟨_,_,?_,aW.pick_get _ [0,1,5],i + 1,_,rfl,⟨aL aI aI,by omega⟩,rfl,rfl⟩ <;> first | omega | skip)
  | rfl
  | skip
end Go.Ab
