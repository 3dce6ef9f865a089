import Derived.Test.YtdeikigmgdnojaaGreatDoorT24
/- A part of the proof of one law. -/
set_option maxRecDepth 100000
set_option maxHeartbeats 8000000
set_option linter.unusedVariables false
set_option linter.unusedSimpArgs false
namespace Go.Ab
open Go Go.Ab.Tryz Go.Proofs
theorem GU {L:aA} (c:List Fc) (t:Fm) (gr:List (Value × Fm)) (a:Nat) (hpa:t.pc=(a:Int)) (hf0:0≤t.fn) (hf1:t.fn < (c.length:Int)) (hp0:0≤t.pc) (hp1:t.pc < ((aC c t.fn).code.length:Int)) (x:In) (hx:aN c t=x) (F:oY c t x) :
  aB Tryz.prog 55 [.ptr 0 0,.eptr 1 gr.length 4 0] (oX c t gr L) (fun r σ'=>(∃ a',(bT c t x=true→a'=bX c t x)∧r = .tup [Ak.dv a',bv (bT c t x)])∧σ'=oX c t gr L) :=
 aB.borrowE (R':=fun r=>∃ a',(bT c t x=true→a'=bX c t x)∧r = .tup [Ak.dv a',bv (bT c t x)]) (wB c t [ld (SN gr t)] a hpa hf0 hf1 hp0 hp1 x hx F) (DY (post:=[])) (fun r σ0 ⟨a',h1,h2⟩=>⟨_,h2,a',h1,rfl⟩)
theorem I5 {L:aA} (c:List Fc) (t:Fm) (gr:List (Value × Fm)) (k:Int) (h0:0≤k) (h1:k + 1 < (t.slots.length:Int)) (h2:(t.slots.length:Int)≤200) :
  aB Tryz.prog 101 [.eptr 1 gr.length 4 0,iv k] (oX c t gr L) (fun r σ'=>r = .tup [(dJ t k).dv,bv (cS t k)]∧σ'=oX c t gr L) :=
 aB.borrowF (sH t k h0 h1 h2) (match DY (post:=[]) (c:=c) (t:=t) (gr:=gr) (L:=L) (run:=112) with
  | .cons _ (.cons h .nil) => .cons h (.cons cA.d .nil)) (fun r σ0 ⟨h,_⟩=>by subst h;exact .tup (.cons (.agg (.cons (.sc _) (.cons (.sc _) .nil))) (.cons (.sc _) .nil)))
theorem K8 (c:List Fc) (t:Fm) (gr:List (Value × Fm)) (a:Nat) (hpa:t.pc=(a:Int)) (hf0:0≤t.fn) (hf1:t.fn < (c.length:Int)) (hp0:0≤t.pc) (hp1:t.pc < ((aC c t.fn).code.length:Int)) (x:In) (hx:aN c t=x) (F:oY c t x) :
  aB Tryz.prog 215 [.ptr 0 0,.eptr 1 gr.length 4 0,x.dv] (oX c t gr []) (fun r σ'=>r=Rs.dv (if bT c t x=true then kW else l9 eA) (if bT c t x=true then bX c t x else d6) false g9∧σ'=oX c t gr []):=by
 refine of_body Tryz.func215 rfl rfl (nB rfl) ?_
 rw [Tryz.ntmps215]
 repeat' (first | ((with_reducible refine kw ?_);first | refine W0 ?_ | refine W3 ?_ | refine bJ ?_ | (refine aJ ?_;first | refine bB rfl rfl rfl rfl ((GU c t gr a hpa hf0 hf1 hp0 hp1 x hx F).mono ?_) | refine tD (mY eA) ?_) | (refine aE ?_;refine SX ?_) | refine gQ ?_ | refine iZ ?_ | refine cW ?_ | refine dH ?_ | refine eV ?_) | refine GA ?_ | refine GG ?_ | (refine cJ (fun hb=>?_) (fun hb=>?_) <;> try rw [hb]) | ((with_reducible refine kf ?_);refine tF (post:=[]) Tryz.results215 rfl ?_) | refine GR ?_ | ((with_reducible refine kr ?_);refine bD rfl rfl ⟨?_,?_⟩) | fail)
 rintro r σ' ⟨⟨a',ha,rfl⟩,rfl⟩
 repeat' (first | ((with_reducible refine kw ?_);first | refine W0 ?_ | refine W3 ?_ | refine bJ ?_ | (refine aJ ?_;first | refine bB rfl rfl rfl rfl ((GU c t gr a hpa hf0 hf1 hp0 hp1 x hx F).mono ?_) | refine tD (mY eA) ?_) | (refine aE ?_;refine SX ?_) | refine gQ ?_ | refine iZ ?_ | refine cW ?_ | refine dH ?_ | refine eV ?_) | refine GA ?_ | refine GG ?_ | (refine cJ (fun hb=>?_) (fun hb=>?_) <;> try rw [hb]) | ((with_reducible refine kf ?_);refine tF (post:=[]) Tryz.results215 rfl ?_) | refine GR ?_ | ((with_reducible refine kr ?_);refine bD rfl rfl ⟨?_,?_⟩) | fail)
 all_goals first
  | (have h0:bT c t x=true:=(by simpa using ‹(!bT c t x)=false›);obtain rfl:=ha h0;(try rw [if_pos h0]);(try rw [if_pos h0]);rfl)
  | (have h0:¬ bT c t x=true:=(by simpa using ‹(!bT c t x)=true›);(try rw [if_neg h0]);(try rw [if_neg h0]);rfl)
theorem K5 (c:List Fc) (t:Fm) (gr:List (Value × Fm)) (x:In) (hk0:0≤x.a) (hk1:x.a + 1 < (t.slots.length:Int)) (hk2:(t.slots.length:Int)≤200) :
  aB Tryz.prog 219 [.ptr 0 0,.eptr 1 gr.length 4 0,x.dv] (oX c t gr []) (fun r σ'=>r=(Rs.dv (if cS t x.a=true∧(dJ t x.a).k≠0 then dJ t x.a else l9 eA) d6 false g9)∧σ'=oX c (t) gr []):=by
 refine of_body Tryz.func219 rfl rfl (nB rfl) ?_
 rw [Tryz.ntmps219]
 repeat' (first | ((with_reducible refine kw ?_);first | refine Wg ?_ | refine W0 ?_ | refine W1 ?_ | refine W2 ?_ | refine W3 ?_ | refine W6 ?_ | refine bJ ?_ | (refine aJ ?_;first | refine bB rfl rfl rfl rfl (aB.ret (I5 c t gr x.a hk0 hk1 hk2) ?_) | refine tD (mY eA) ?_) | (refine aE ?_;refine SX ?_) | refine eT ?_ | refine iZ ?_ | refine cW ?_ | refine dH ?_ | refine eV ?_) | refine GX ?_ | (refine bW (fun hb=>?_) (fun hb=>?_) <;> rw [hb]) | refine GA ?_ | refine GG ?_ | (refine cJ (fun hb=>?_) (fun hb=>?_) <;> try rw [hb]) | ((with_reducible refine kf ?_);refine tF (post:=[]) Tryz.results219 rfl ?_) | refine GR ?_ | ((with_reducible refine kr ?_);refine bD rfl rfl ⟨?_,?_⟩) | fail)
 all_goals (first | (have h0:=‹cS t x.a=true›;have h1:=oT ‹decide ((dJ t x.a).k≠0)=true›;(try rw [if_pos ⟨(by first | rfl | exact h0),h1⟩]);rfl) | (have h0:=‹cS t x.a=true›;have h1:=oF ‹decide ((dJ t x.a).k≠0)=false›;(try rw [if_neg (fun h=>h1 h.2)]);rfl) | (have h0:=‹cS t x.a=false›;(try rw [if_neg (fun h=>by first | (cases h.1;done) | (rw [h0] at h;cases h.1))]);rfl))
theorem HU {P:Program} {e:aW} {σ:aA} {n:Nat} {x j:Operand} {ty el el':TypeId} {id sz:Nat} {kd:IntKind} {m:Int} {gr:List (Value × Fm)} {r:List DV} (ht:dU P ty=some (el,sz)) (hx:e.ev x=some (.arr id)) (hi:e.ev j=some (.d (.sc (.int kd m)))) (hl:σ.look id=some (.arr el' (d4 gr++[r]))) (hs:P.cellsOf el'=sz) (hm:m=(gr.length:Int)) :
  Ev P (.indexAddr ty x j) e σ n (.eptr id gr.length sz 0) σ:=by
 have:=BP (P:=P) (n:=n) ht hx hi hl aI (by rw [List.length_append,f6];simp;omega) hs
 have e:m.toNat=gr.length:=by omega
 rwa [e] at this
theorem yO {P:Program} {e:aW} {σ:aA} {n:Nat} {x:Operand} {ty el el':TypeId} {id:Nat} {gr:List (Value × Fm)} {r:List DV} (ht:P.underlying ty=some (.slice el)) (hx:e.ev x=some (.arr id)) (hl:σ.look id=some (.arr el' (d4 gr++[r]))):Ev P (.call { callee := .builtin .len,args:=#[x],argTypes:=#[ty] }) e σ n (.d (.sc (.int .i64 ((gr.length:Int) + 1)))) σ:=by
 have:=yN (P:=P) (n:=n) ht hx hl
 rw [List.length_append,f6] at this
 exact this
theorem YK (c:List Fc) (b0:Nat) (fv u:Value) (t:Fm) (gr:List (Value × Fm)) (hg:gr.length≤1000) :
  aB Tryz.prog 56 [.ptr 0 0] [some (jK c b0 fv ((u,t)::gr))] (fun r σ'=>∃ b0 fv u,r = .d (.sc (pY fv (gr.length * 4 + 0)))∧σ'=[some (jK c b0 fv ((u,t)::gr))]):=by
 have hw:IntKind.i64.wrap ((gr.length:Int) + 1 - 1)=(gr.length:Int):=by rw [aL aI aI];omega
 refine of_body Tryz.func56 rfl rfl (nB rfl) ?_
 rw [Tryz.ntmps56]
 refine dB (UP (post:=[]) ?_)
 repeat' (first | ((with_reducible refine kw ?_);refine bJ ?_) | refine GN ?_ | ((with_reducible refine kd ?_);first | refine D0 ?_ | refine D1 ?_ | refine D2 ?_ | refine D4 ?_ | refine D6 ?_ | refine iY ?_ | (refine c7 ?_;refine dC (HU (el rfl) rfl rfl rfl (sz rfl) aI) rfl rfl rfl rfl ?_) | (refine nH ?_;refine dC (yO (sl rfl) rfl rfl) rfl rfl rfl rfl ?_)) | ((with_reducible refine ka ?_);first | ((with_reducible refine i5 1 ?_);skip;refine fI ?_) | (refine WO ?_;refine dB (UO 2 rfl fun b0 fv u=>?_);refine QB ?_)) | refine GA ?_ | refine GG ?_ | ((with_reducible refine kf ?_);refine aP 1 Tryz.results56 rfl rfl rfl ?_) | refine GR ?_ | ((with_reducible refine kr ?_);refine bD rfl rfl ⟨_,_,_,rfl,rfl⟩) | fail)
 all_goals skip
section
variable {σ L:aA} {c:List Fc} {b0:Nat} {fv u:Value} {t t':Fm} {gr gs:List (Value × Fm)} {run:TypeId} {post:List aR} {ss:List Va} {e:aW} {J:aW→aA→Prop}
theorem HM (h:J e [some (.box run (bC c :: .arr 1::post.map .d)),some (.arr 63 (d4 gs)),some (iB gs)]):SC Tryz.prog e [some (mG run post c b0 fv gs)] J:=kM (k:=0) rfl h
def UR (σ:aA) (run:TypeId) (post:List aR) (c:List Fc) (b0:Nat) (fv u:Value) (f pc tt:Int) (ss:List Va) (gr:List (Value × Fm)) (n p:Nat):aA :=
 aA.put (aA.put (aA.put (aA.put (aA.put (aA.put σ 2 (some (bS Tryz.prog 35 ((u,ss.map Va.enc)::gr.map rS)))) n (some (.arr 63 (d4 gr++[[iv f,iv pc,iv tt,.d (.sc u)]])))) p none) 0 (some (mG run post c b0 fv ((u,⟨f,pc,tt,ss⟩)::gr)))) n none) 2 none
theorem UN (post:List aR) {n p:Nat} {f pc tt:Int} (hk:σ.look 0=some (.box run (bC c :: .arr n::post.map .d))) (hn:σ.look n=some (.arr 63 (d4 gr++[[iv f,iv pc,iv tt,.arr p]]))) (hm:σ.look 2=some (iB gr)) (hp:σ.look p=some (.arr 35 (aS ss))) (hpn:Nat.beq p n=false)
  (h:∀ b0 fv u,J e (UR σ run post c b0 fv u f pc tt ss gr n p)):SC Tryz.prog e σ J:=by
 have h02:n≠2:=by rintro rfl;rw [hn] at hm;cases hm
 have hp2:p≠2:=by rintro rfl;rw [hp] at hm;cases hm
 have hn0:n≠0:=by rintro rfl;rw [hk] at hn;cases hn
 have hp0:p≠0:=by rintro rfl;rw [hk] at hp;cases hp
 have hpn':p≠n:=by intro e;subst e;simp at hpn
 refine lQ (vO (n:=n) (m:=2) (p:=p) (i:=gr.length) (j:=3) (l:=gr.map rS) hm hn hpn hp (s:=ss.map Va.enc) rfl (dV rfl) rfl fun u=>?_)
 rw [mC]
 show SC Tryz.prog e (aA.put (aA.put (aA.put σ 2 (some (bS Tryz.prog 35 ((u,ss.map Va.enc)::gr.map rS)))) n (some (.arr 63 (d4 gr++[[iv f,iv pc,iv tt,.d (.sc u)]])))) p none) J
 have l1:(σ.put 2 (some (bS Tryz.prog 35 ((u,ss.map Va.enc)::gr.map rS)))).look n=some (.arr 63 (d4 gr++[[iv f,iv pc,iv tt,.arr p]])):=by rw [aM hm,if_neg h02];exact hn
 have l2:((σ.put 2 (some (bS Tryz.prog 35 ((u,ss.map Va.enc)::gr.map rS)))).put n (some (.arr 63 (d4 gr++[[iv f,iv pc,iv tt,.d (.sc u)]])))).look p=some (.arr 35 (aS ss)):=by rw [aM l1,if_neg hpn',aM hm,if_neg hp2];exact hp
 refine pK (k:=0) (n:=n) (m:=2) [kZ c] post (rows:=gI ((u,⟨f,pc,tt,ss⟩)::gr)) (es:=d4 gr++[[iv f,iv pc,iv tt,.d (.sc u)]]) ?_ ?_ (fM (u:=u) (t:=⟨f,pc,tt,ss⟩)).symm ?_ fun b0 fv=>h b0 fv u
 ·rw [aM l2,if_neg (Ne.symm hp0),aM l1,if_neg (Ne.symm hn0),aM hm,if_neg aI];exact hk
 ·rw [aM l2,if_neg (Ne.symm hpn'),aM l1,if_pos rfl]
 ·rw [aM l2,if_neg (Ne.symm hp2),aM l1,if_neg (Ne.symm h02),aM hm,if_pos rfl];rfl
end
theorem EI (args:List Va) (n:Nat) (h:args.length≤n):((args.map Va.enc).map fun e=>e.map DV.d).take (List.replicate n [iv 0,iv 0,sv ⟨#[]⟩]).length++(List.replicate n [iv 0,iv 0,sv ⟨#[]⟩]).drop ((args.map Va.enc).map fun e=>e.map DV.d).length=aS (args++List.replicate (n - args.length) g9):=by
 rw [List.take_of_length_le (by simpa using h)]
 simp [aS,aO]
theorem HT {P:Program} {e:aW} {σ:aA} {n:Nat} {x y:Operand} {t u el:TypeId} {sz id m:Nat} {args:List Va} (ht:dU P t=some (el,sz)) (hx:e.ev x=some (.arr id)) (hy:e.ev y=some (lv (args.map Va.enc))) (hl:σ.look id=some (.arr el (List.replicate m [iv 0,iv 0,sv ⟨#[]⟩]))) (hm:args.length≤m) (hsz:sz=3) :
  Ev P (.call { callee := .builtin .copy,args:=#[x,y],argTypes:=#[t,u] }) e σ n (.d (.sc (.int .i64 (Nat.min args.length m)))) (σ.put id (some (.arr el (aS (args++List.replicate (m - args.length) g9))))):=by
 subst hsz
 have:=ND (P:=P) (n:=n) (u:=u) ht hx hy hl (iI eS)
 rw [EI args m hm] at this
 simpa using this
theorem V5 (c:List Fc) (fn tt:Int) (args:List Va) (hf0:0≤fn) (hf1:fn < (c.length:Int)) (hs0:0≤(aC c fn).slots) (hs1:(aC c fn).slots≤200) (hle:args.length≤(aC c fn).slots.toNat) (b0:Nat) (fv:Value) (gs:List (Value × Fm)) (hg:gs.length≤1000) :
  aB Tryz.prog 84 [.ptr 0 0,iv fn,iv tt,lv (args.map Va.enc)] [some (jK c b0 fv gs)] (fun r σ'=>∃ b0 fv u,r = .tup []∧σ'=[some (jK c b0 fv ((u,eW c fn tt args)::gs))]):=by
 refine of_body Tryz.func84 rfl rfl (nB rfl) ?_
 rw [Tryz.ntmps84]
 refine jZ ?_
 refine dB (HM (post:=[]) ?_)
 repeat' (first | ((with_reducible refine kw ?_);first | refine W0 ?_ | refine W1 ?_ | refine W2 ?_ | refine W4 ?_ | (refine fO ?_;first | refine cK (aF (el rfl) rfl rfl hf0 (by simp only [List.length_map] at *;omega) ⟨rfl,by decide⟩) rfl rfl ?_ | refine cK (aF (el rfl) rfl rfl QA QA ⟨rfl,by decide⟩) rfl rfl ?_) | (refine aE ?_;refine q8 ?_) | refine dH ?_ | refine eV ?_ | (refine NO ?_;refine cK (SA (el rfl) rfl rfl (WY rfl) (zr rfl) hs0 (Int.le_refl _) aI (by unfold gY;omega) rfl rfl) rfl rfl ?_) | (refine cK (HT (el rfl) rfl rfl rfl hle rfl) rfl rfl ?_)) | refine GN ?_ | ((with_reducible refine kd ?_);first | refine D0 ?_ | refine D1 ?_ | refine D2 ?_ | refine D3 ?_ | refine D4 ?_ | (refine aV ?_;refine BW ?_) | refine NX ?_ | refine NX ?_ | (refine LW ?_;refine TE (fY (el rfl) (sl rfl) rfl rfl rfl (ap rfl) (mM rfl rfl) (HP rfl (sz rfl)) (g7 (by simp [f6];omega) cN)) rfl rfl rfl rfl rfl ?_)) | refine GA ?_ | refine GG ?_ | ((with_reducible refine kf ?_);refine aP 1 Tryz.results84 rfl rfl rfl ?_) | ((with_reducible refine O3 ?_);refine UN (n:=6) (p:=3) [] rfl rfl rfl rfl rfl fun b0 fv u=>?_) | ((with_reducible refine kr ?_);refine bD rfl rfl ⟨_,_,_,rfl,rfl⟩) | fail)
 all_goals skip
section
variable {P:Program} {σ L:aA} {c:List Fc} {b0:Nat} {fv u:Value} {t t':Fm} {gr gs:List (Value × Fm)} {run:TypeId} {post:List aR} {ss:List Va} {e:aW} {J:aW→aA→Prop}
theorem aB.front1 {α:Sort _} {f:FuncId} {args:List DV} {o0:aU} {o:α→aU} {rr:α→DV} {C:α→Prop} (h:aB P f args [some o0] (fun r s=>∃ y,C y∧r=rr y∧s=[some (o y)])) (h0:o0.under 1=true) (h1:∀ y,(o y).under 1=true) (ha:DV.unders 1 args=true) (hr:∀ y,(rr y).under 1=true) :
  aB P f args (some o0::L) (fun r s=>∃ y,C y∧r=rr y∧s=some (o y)::L):=by
 have hg:∀ i,i < 1→bL [0] (some o0::L).length i=i:=fun i hi=>by
  obtain rfl:i=0:=by omega
  rfl
 refine (aB.within h [0] ⟨rfl,fun k hk=>?_,by simp,fun i o k h2 h3=>?_,fun i o h2=>?_⟩ ha (rK hg args ha)).mono ?_
 ·simp at hk;subst hk;simp
 ·have hi:=a7 h2
  obtain rfl:i=0:=by simp at hi;exact hi
  simp at h3;subst h3
  cases h2
  show some o0=some (o0.ren _)
  rw [nF hg o0 h0]
 ·have hi:=a7 h2
  obtain rfl:i=0:=by simp at hi;exact hi
  cases h2;exact h0
 ·rintro r s ⟨r0,σ0,⟨y,hc,rfl,rfl⟩,_,rfl,rfl⟩
  refine ⟨y,hc,x8 hg _ (hr y),?_⟩
  have:=nF hg (o y) (h1 y)
  simp only [kC,dX,Option.map_some,this]
  simp
def okR (lt:List dQ) (ps:List Nat) (k:Nat):Bool:=lt.all fun a=>fV ps a.ix || !fV a.R k
theorem Q5 {nt i:Nat} {K:aW→aA→Prop} {seen:List Nat} {lt:List dQ} {rest:List (Nat × Oper)} {ops:Array Oper} {dst:Option Nat} {ty:TypeId} {pos:String} {after:Array Edge} {gd:Option (Nat × Bool)} {f:Operand} {args:Array Operand} {ts:Array TypeId} {g:FuncId} {first cap xs ys:List DV} {Rr:DV→aA→Prop} (k0:Nat) (hw:aT ops ⟨dst,.call { callee := .value f,args,argTypes:=ts },ty,pos,after,gd⟩ e=some true)
  (hf:e.ev f=some (.fn (.func g) first cap)) (hx:args.toList.mapM e.ev=some xs) (hy:DV.norms (first++xs++cap)=ys) (hok:PC lt (bN ⟨dst,.call { callee := .value f,args,argTypes:=ts },ty,pos,after,gd⟩)=true) (hl:j9 ops [i] (rest.map (·.1))=true) (hc:aB P g ys σ Rr)
  (hR:okR lt (bN ⟨dst,.call { callee := .value f,args,argTypes:=ts },ty,pos,after,gd⟩) k0=true) (hk:∀ r σ',Rr r σ'→∀ id,id≠k0→σ'.look id=σ.look id)
  (k:∀ r σ',Rr r σ'→bO P nt ops K (i::seen) lt rest (e.put dst r) σ'):bR P nt ops K seen lt ((i,⟨dst,.call { callee := .value f,args,argTypes:=ts },ty,pos,after,gd⟩)::rest) e σ :=
 GW Rr hw hf hx hy hok hl hc (fun r σ' hr a ha hno id hid=>hk r σ' hr id (fun e=>by
  subst e
  have:=List.all_eq_true.1 hR a ha
  rw [hno,c0,cZ.2 hid] at this;cases this)) k
def T5 (ops:Array Oper) (i:Nat) (lt:List dQ) (ps ks:List Nat):Bool:=lt.all fun a=>(fV ps a.ix || yV ops 6 i a.ix) || ks.all fun k=>!fV a.R k
theorem Q6 {nt i:Nat} {K:aW→aA→Prop} {seen:List Nat} {lt:List dQ} {rest:List (Nat × Oper)} {ops:Array Oper} {dst:Option Nat} {ty:TypeId} {pos:String} {after:Array Edge} {gd:Option (Nat × Bool)} {f:Operand} {args:Array Operand} {ts:Array TypeId} {g:FuncId} {first cap xs ys:List DV} {Rr:DV→aA→Prop} (ks:List Nat) (hw:aT ops ⟨dst,.call { callee := .value f,args,argTypes:=ts },ty,pos,after,gd⟩ e=some true)
  (hf:e.ev f=some (.fn (.func g) first cap)) (hx:args.toList.mapM e.ev=some xs) (hy:DV.norms (first++xs++cap)=ys) (hok:PC lt (bN ⟨dst,.call { callee := .value f,args,argTypes:=ts },ty,pos,after,gd⟩)=true) (hl:j9 ops [i] (rest.map (·.1))=true) (hc:aB P g ys σ Rr)
  (hR:T5 ops i lt (bN ⟨dst,.call { callee := .value f,args,argTypes:=ts },ty,pos,after,gd⟩) ks=true) (hk:∀ r σ',Rr r σ'→∀ id,id ∉ ks→σ'.look id=σ.look id)
  (k:∀ r σ',Rr r σ'→bO P nt ops K (i::seen) lt rest (e.put dst r) σ'):bR P nt ops K seen lt ((i,⟨dst,.call { callee := .value f,args,argTypes:=ts },ty,pos,after,gd⟩)::rest) e σ :=
 LN Rr hw hf hx hy hok hl hc (fun r σ' hr a ha hno id hid=>hk r σ' hr id (fun e=>by
  have:=List.all_eq_true.1 hR a ha
  rw [hno,c0] at this
  have:=List.all_eq_true.1 this id e
  rw [cZ.2 hid] at this;cases this)) k
theorem BQ {n:Nat} {x:Operand} {ty el el':TypeId} {id:Nat} (ht:P.underlying ty=some (.slice el)) (hx:e.ev x=some (.arr id)) (hl:σ.look id=some (.arr el' (aO (gI gs)))):Ev P (.call { callee := .builtin .len,args:=#[x],argTypes:=#[ty] }) e σ n (.d (.sc (.int .i64 gs.length))) σ:=by
 have:=yN (P:=P) (n:=n) ht hx hl
 simpa [aO,gI] using this
theorem BK {n m:Nat} (h1:σ.look n=some (.arr 63 (d4 gs))) (h2:σ.look m=some (iB gs)):cA Tryz.prog σ (.arr n) (.d (.lst ((gs.map fun g=>g.2.enc).reverse))):=by
 refine cA.arr h1 (by simp [d4,aO,gI]) fun i e he=>?_
 simp only [d4,aO,gI,List.getElem?_map] at he
 obtain ⟨r,hr,rfl⟩:=Option.map_eq_some_iff.1 he
 rw [← List.map_reverse,List.getElem?_map] at hr
 obtain ⟨g,hg,rfl⟩:=Option.map_eq_some_iff.1 hr
 refine ⟨g.2.enc,?_,AG h2 (List.mem_reverse.1 (List.mem_of_getElem? hg))⟩
 rw [← List.map_reverse,List.getElem?_map,hg];rfl
theorem DD {k:Nat} (hl:σ.look k=some (mG run post c b0 fv gs)) :
  aA.look (σ.put k (some (.box run (bC c :: .arr σ.length::post.map .d)))++[some (.arr 63 (d4 gs)),some (iB gs)]) k=some (.box run (bC c :: .arr σ.length::post.map .d)) ∧
  aA.look (σ.put k (some (.box run (bC c :: .arr σ.length::post.map .d)))++[some (.arr 63 (d4 gs)),some (iB gs)]) σ.length=some (.arr 63 (d4 gs)) ∧
  aA.look (σ.put k (some (.box run (bC c :: .arr σ.length::post.map .d)))++[some (.arr 63 (d4 gs)),some (iB gs)]) (σ.length + 1)=some (iB gs):=by
 have hk:=a7 hl
 refine ⟨?_,?_,?_⟩
 ·rw [eZ,bV hl,if_pos hk,aM hl,if_pos rfl]
 ·rw [eZ,bV hl,if_neg (Nat.lt_irrefl _),Nat.sub_self];rfl
 ·rw [eZ,bV hl,if_neg aI,Nat.add_sub_cancel_left];rfl
theorem AF {k:Nat} (hl:σ.look k=some (mG run post c b0 fv ((u,t)::gr))) :
  jX Tryz.prog σ [.ptr k 0,.d (.sc (pY fv (gr.length * 4 + 0)))] [.iptr (kZ c::ld ((((u,t)::gr).map fun g=>g.2.enc).reverse)::post) 0,.iptr t.enc 0]:=by
 obtain ⟨g1,g2,g3⟩:=DD hl
 refine .cons (cA.opened hl (d1 := .ptr k 0) (cA.box g1 (.cons cA.d (.cons (BK g2 g3) (kO post)))) DE) (.cons (cA.opened hl (d1 := .eptr σ.length gr.length 4 0) (cA.row g2 (by rw [fM];exact dV rfl) (sz rfl) (.cons cA.d (.cons cA.d (.cons cA.d (.cons (cA.raw g3 (List.mem_map.2 ⟨(u,t),by simp,rfl⟩)) .nil))))) ?_) .nil)
 intro ι ι' w M v hι hn hs hr
 exact zK hn (hs qN) hr
theorem EH {k:Nat} (hl:σ.look k=some (mG run post c b0 fv ((u,t)::gr))) (l:List Int) (hll:l.length≤1000) (hk:∀ i:Nat,i < l.length→0≤aC l (i:Int)∧aC l (i:Int) < (t.slots.length:Int)) :
  aB Tryz.prog 99 [.d (.sc (pY fv (gr.length * 4 + 0))),lv (uS l)] σ (fun r s=>r=lv ((aY t l).map Va.enc)∧s=σ) :=
 aB.borrowF (AO t l hll hk) (match AF hl with
  | .cons _ (.cons h .nil) => .cons h (.cons cA.d .nil)) (fun r σ0 ⟨h1,h2⟩=>by subst h1 h2;exact .arr rfl rfl wN)
end
abbrev yD:ByteArray:=⟨#[100,101,101,112]⟩
theorem OI (c:List Fc) (b0:Nat) (fv u:Value) (t:Fm) (gr:List (Value × Fm)) (x:In) (hb0:0≤x.b) (hb1:x.b < (c.length:Int)) (hs0:0≤(aC c x.b).slots) (hs1:(aC c x.b).slots≤200) (hle:(aY t x.l).length≤(aC c x.b).slots.toNat) (hg:((u,t)::gr).length≤1000)
  (hn:x.l.length≤1000) (hk:∀ i:Nat,i < x.l.length→0≤aC x.l (i:Int)∧aC x.l (i:Int) < (t.slots.length:Int)) :
  aB Tryz.prog 212 [.ptr 0 0,.d (.sc (pY fv (gr.length * 4 + 0))),x.dv] [some (jK c b0 fv ((u,t)::gr))] (fun r σ'=>r=Rs.dv (if gr.length + 1=24 then l9 yD else kW) d6 false g9∧∃ b0 fv gs',σ'=[some (jK c b0 fv gs')]∧gs'.map (·.2)=if gr.length + 1=24 then t::gr.map (·.2) else eW c x.b x.a (aY t x.l)::t::gr.map (·.2)):=by
 refine of_body Tryz.func212 rfl rfl (nB rfl) ?_
 rw [Tryz.ntmps212]
 refine jZ ?_
 repeat' (first | ((with_reducible refine kw ?_);first | refine W0 ?_ | refine W1 ?_ | refine W2 ?_ | refine W4 ?_ | refine W6 ?_ | (refine aJ ?_;refine tD (mY yD) ?_) | (refine aE ?_;refine vR ?_) | (refine kT ?_;refine cK (BQ (sl rfl) rfl rfl) rfl rfl ?_) | refine cW ?_ | refine dH ?_ | refine eV ?_) | refine GN ?_ | ((with_reducible refine kd ?_);first | refine D0 ?_ | refine D1 ?_ | refine D2 ?_ | (refine bM ?_;first | refine eM [0] rfl rfl rfl rfl (fun σ2 hσ=>EH (k:=0) (hσ 0 eS) x.l hn hk) rfl ?_ | refine Q5 0 rfl rfl rfl rfl rfl rfl (aB.front1 (C:=fun _=>True) (rr:=fun _ => .tup []) (o:=fun y:Nat × Value × Value=>jK c y.1 y.2.1 ((y.2.2,eW c x.b x.a (aY t x.l))::(u,t)::gr)) ((V5 c x.b x.a (aY t x.l) hb0 hb1 hs0 hs1 hle b1 fv1 ((u,t)::gr) hg).mono fun r s ⟨b,v,w,h1,h2⟩=>⟨(b,v,w),trivial,h1,h2⟩) rfl (fun _=>rfl) rfl (fun _=>rfl)) rfl ?_ ?_)) | ((with_reducible refine ka ?_);first | ((with_reducible refine i5 1 ?_);refine dB (wJ (k:=0) 1 gr.length 4 0 rfl qN rfl ?_);refine fI ?_) | ((with_reducible refine i5 3 ?_);refine dB (DR (k:=0) (n:=3) (m:=4) (rows:=gI ((u,t)::gr)) [kZ c] [] 1 rfl rfl rfl rfl rfl fun b1 fv1=>?_);refine fI ?_)) | refine GA ?_ | refine GG ?_ | (refine cJ (fun hb=>?_) (fun hb=>?_) <;> try rw [hb]) | ((with_reducible refine kf ?_);refine aP 1 Tryz.results212 rfl rfl rfl ?_) | ((with_reducible refine O3 ?_);first | refine pK (k:=0) (n:=3) (m:=4) (rows:=gI ((u,t)::gr)) [kZ c] [] rfl rfl rfl rfl fun b0 fv=>?_ | refine y7 ?_) | refine GR ?_ | ((with_reducible refine kr ?_);refine bD rfl rfl ⟨?_,_,_,_,rfl,?_⟩) | fail)
 all_goals first
  | (have h0:gr.length + 1=24:=(by have:=oT ‹decide ((((u,t)::gr).length:Int)=24)=true›;simp at this;omega);rw [if_pos h0];rfl)
  | skip
 ·rintro r s ⟨y,_,rfl,rfl⟩ id hid
  cases id with
  | zero=>exact absurd rfl hid
  | succ id=>rfl
 ·have h0:¬ gr.length + 1=24:=(by have:=oF ‹decide ((((u,t)::gr).length:Int)=24)=false›;simp at this;omega)
  rintro r s ⟨y,_,rfl,rfl⟩
  repeat' (first | ((with_reducible refine kw ?_);first | refine W0 ?_ | refine W1 ?_ | refine W2 ?_ | refine W4 ?_ | refine W6 ?_ | (refine aE ?_;refine vR ?_) | (refine kT ?_;refine cK (BQ (sl rfl) rfl rfl) rfl rfl ?_) | refine cW ?_ | refine dH ?_ | refine eV ?_) | refine GN ?_ | ((with_reducible refine kd ?_);first | refine D0 ?_ | refine D1 ?_ | refine D2 ?_) | refine GA ?_ | refine GG ?_ | (refine cJ (fun hb=>?_) (fun hb=>?_) <;> try rw [hb]) | ((with_reducible refine kf ?_);refine aP 1 Tryz.results212 rfl rfl rfl ?_) | ((with_reducible refine O3 ?_);first | refine pK (k:=0) (n:=3) (m:=4) (rows:=gI ((u,t)::gr)) [kZ c] [] rfl rfl rfl rfl fun b0 fv=>?_ | refine y7 ?_) | refine GR ?_ | ((with_reducible refine kr ?_);refine bD rfl rfl ⟨?_,_,_,_,rfl,?_⟩) | fail)
  all_goals (rw [if_neg h0];rfl)
section
variable {P:Program} {nt:Nat} {σ σ' L:aA} {c:List Fc} {b0:Nat} {fv u:Value} {t t':Fm} {gr gs:List (Value × Fm)} {run:TypeId} {post:List aR} {ss:List Va} {e:aW} {J:aW→aA→Prop}
theorem NF {ty el:TypeId} {sz id:Nat} {x hi:Operand} {kd:IntKind} {m:Int} {r:List DV} (ht:dU P ty=some (el,sz)) (hx:e.ev x=some (.arr id)) (hl:σ.look id=some (.arr el (d4 gr++[r]))) (hh:e.ev hi=some (.d (.sc (.int kd m)))) (hm:m=(gr.length:Int)) :
  Ev P (.slice ty x none (some hi) none) e σ σ.length (.arr σ.length) ((σ.put id none)++[some (.arr el (d4 gr))]):=by
 have:=R1 (P:=P) (lo:=none) (hi:=some hi) (h:=m.toNat) (l:=0) ht hx hl (OF hh aI (by rw [List.length_append,f6];simp;omega)) rfl
 have e1:m.toNat=(d4 gr).length:=by rw [f6];omega
 simpa [e1] using this
theorem TF {K:aW→aA→Prop} {ops:Array Oper} {seen:List Nat} {lt:List dQ} {rest:List (Nat × Oper)} {i:Nat} {o:Oper} {d:DV} {R W:List Nat} (h:Ev P o.op e σ σ.length d σ') (hw:aT ops o e=some true) (hR:dA o.op e=R) (hW:bF o.op e σ.length=W) (hc:SO ops i lt (bN o) R W=true) (hl:σ'.length=σ.length + 1)
  (k:bO P nt ops K (i::seen) (⟨i,o.dst,o.looksAt ops,R,W⟩::lt) rest (e.put o.dst d) σ'):bR P nt ops K seen lt ((i,o)::rest) e σ :=
 W5 h hw hR hW hc (by unfold mH;split <;> first | rfl | rw [if_neg aI]) k
theorem KA (n:Nat) (hm:σ.look 2=some (iB ((u,t)::gr))) (hn:σ.look n=some (.arr 63 (d4 ((u,t)::gr))))
  (h:J e (aA.put (aA.put σ 2 (some (iB gr))) n (some (.arr 63 (d4 gr++[iD t (.arr σ.length)])))++[some (.arr 35 (aS t.slots))])):SC Tryz.prog e σ J:=by
 rw [fM] at hn
 refine BJ (n:=n) (m:=2) (i:=gr.length) (j:=3) (u:=u) (s:=t.slots.map Va.enc) (l':=gr.map rS) hm hP hn (dV rfl) rfl ?_
 rw [mC];exact h
theorem yR {g:Nat→Nat} {ty:TypeId} {p:Nat}:(aU.arr ty (d4 gr++[iD t (.arr p)])).ren g = .arr ty (d4 gr++[iD t (.arr (g p))]):=by
 have:(aU.arr ty (d4 gr)).ren g = .arr ty (d4 gr):=lH
 simp only [aU.ren,aU.arr.injEq,true_and] at this
 simp only [aU.ren,List.map_append,this,List.map_cons,List.map_nil,DV.rens,DV.ren]
abbrev NV (run:TypeId) (post:List aR) (c:List Fc) (t:Fm) (gr:List (Value × Fm)):aA:=[some (.box run (bC c :: .arr 1::post.map .d)),some (.arr 63 (d4 gr++[iD t (.arr 2)])),some (.arr 35 (aS t.slots))]
theorem qA {g:Nat→Nat} {p:Nat}:(aU.box run (bC c :: .arr p::post.map .d)).ren g = .box run (bC c :: .arr (g p)::post.map .d):=AY (pre:=[kZ c]) g p
theorem wC {m p:Nat} (h:p < m):(aU.box run (bC c :: .arr p::post.map .d)).under m=true:=by
 simp only [aU.under,DV.unders,DV.under,b6]
 rw [fB];simp [h]
theorem mF {n p:Nat} (h0:σ.look 0=some (.box run (bC c :: .arr n::post.map .d))) (h1:σ.look n=some (.arr 63 (d4 gr++[iD t (.arr p)]))) (h2:σ.look p=some (.arr 35 (aS t.slots))):gR σ (bL [0,n,p] σ.length) 3 [0,n,p] (NV run post c t gr):=by
 have b:∀ {k:Nat} {o:aU},σ.look k=some o→Nat.blt k σ.length=true:=fun h=>by simpa using a7 h
 refine ⟨⟨b h0,wC cN,?_⟩,⟨b h1,lL rfl,?_⟩,⟨b h2,eB,?_⟩,trivial⟩
 ·rw [qA,h0];rfl
 ·rw [yR,h1];rfl
 ·rw [fL,h2]
theorem BF {x:In} {n p:Nat} (hp:0≤t.pc∧t.pc < 4000) (h0:σ.look 0=some (.box 112 [bC c,.arr n])) (h1:σ.look n=some (.arr 63 (d4 gr++[iD t (.arr p)]))) (h2:σ.look 2=some (iB gr)) (h3:σ.look p=some (.arr 35 (aS t.slots))) (hd:lC [0,n,2,p]=true) :
  aB Tryz.prog 216 [.ptr 0 0,.eptr n gr.length 4 0,x.dv] σ (fun r s=>r=RU∧s=σ.put n (some (.arr 63 (d4 gr++[iD (dS t) (.arr p)])))):=by
 have b:∀ {k:Nat} {o:aU},σ.look k=some o→k < σ.length:=fun h=>a7 h
 have hnd:=m5 hd
 have hl:∀ (t':Fm) i o k,aA.look (oX c t' gr []) i=some o→[0,n,2,p][i]? = some k→some (o.ren (bL [0,n,2,p] σ.length))=if i=1 then some (.arr 63 (d4 gr++[iD t' (.arr p)])) else if i=3 then some (.arr 35 (aS t'.slots)) else σ.look k:=by
  intro t' i o k g1 g2
  match i,g1,g2 with
  | 0,g1,g2=>cases g1;cases g2;rw [h0];exact congrArg some (qA (post:=[]) (run:=112) (c:=c) (p:=1))
  | 1,g1,g2=>cases g1;cases g2;rw [yR];rfl
  | 2,g1,g2=>cases g1;cases g2;rw [h2];rfl
  | 3,g1,g2=>cases g1;cases g2;rw [fL];rfl
  | i + 4,g1,g2=>simp at g2
 refine (aB.within (pG c t gr x hp) [0,n,2,p] ⟨rfl,fun k hk=>?_,hnd,fun i o k g1 g2=>?_,fun i o g1=>jR (qX (post:=[])) (a7 g1) g1⟩ rfl (args':=[.ptr 0 0,.eptr n gr.length 4 0,x.dv]) rfl).mono ?_
 ·simp only [List.mem_cons,List.not_mem_nil,or_false] at hk
  rcases hk with rfl | rfl | rfl | rfl
  ·exact b h0
  ·exact b h1
  ·exact b h2
  ·exact b h3
 ·have:=hl t i o k g1 g2
  rw [this]
  match i,g2 with
  | 0,g2=>rfl
  | 1,g2=>cases g2;exact h1
  | 2,g2=>rfl
  | 3,g2=>cases g2;exact h3
  | i + 4,g2=>simp at g2
 ·rintro r s ⟨r0,σ0,⟨rfl,rfl⟩,_,rfl,rfl⟩
  refine ⟨rfl,?_⟩
  have e0:(aU.box 112 [bC c,.arr 1]).ren (bL [0,n,2,p] σ.length) = .box 112 [bC c,.arr n]:=qA (post:=[])
  have e1:(aU.arr 63 (d4 gr++[iD (dS t) (.arr 3)])).ren (bL [0,n,2,p] σ.length) = .arr 63 (d4 gr++[iD (dS t) (.arr p)]):=yR
  have e3:(aU.arr 35 (aS (dS t).slots)).ren (bL [0,n,2,p] σ.length) = .arr 35 (aS t.slots):=fL
  simp only [kC,dX,KM,Option.map_some,List.map_nil,List.append_nil,e0,e1,e3]
  rw [List.nodup_cons,List.nodup_cons,List.nodup_cons] at hnd
  obtain ⟨d0,d1,d2,_⟩:=hnd
  simp only [List.mem_cons,List.not_mem_nil,or_false,not_or] at d0 d1 d2
  rw [qS h0]
  have l2:aA.look (List.set σ n (some (.arr 63 (d4 gr++[iD (dS t) (.arr p)])))) 2=some (iB gr):=by rw [tQ (b h1),if_neg aI];exact h2
  have l3:aA.look (List.set σ n (some (.arr 63 (d4 gr++[iD (dS t) (.arr p)])))) p=some (.arr 35 (aS t.slots)):=by rw [tQ (b h1),if_neg aI];exact h3
  show List.set (List.set (List.set σ n _) 2 (some (iB gr))) p _=_
  rw [qS l2,qS l3,aA.put_eq,if_pos (b h1)]
theorem AZ {i:Nat} {K:aW→aA→Prop} {seen:List Nat} {lt:List dQ} {rest:List (Nat × Oper)} {ops:Array Oper} {dst:Option Nat} {ty:TypeId} {pos:String} {after:Array Edge} {gd:Option (Nat × Bool)} {f:Operand} {args:Array Operand} {ts:Array TypeId} {g:FuncId} {first cap xs ys:List DV} {x:DV} {o:Option aU} {o0:aU} (k0:Nat) (hw:aT ops ⟨dst,.call { callee := .value f,args,argTypes:=ts },ty,pos,after,gd⟩ e=some true)
  (hf:e.ev f=some (.fn (.func g) first cap)) (hx:args.toList.mapM e.ev=some xs) (hy:DV.norms (first++xs++cap)=ys) (hok:PC lt (bN ⟨dst,.call { callee := .value f,args,argTypes:=ts },ty,pos,after,gd⟩)=true) (hl:j9 ops [i] (rest.map (·.1))=true) (hc:aB P g ys σ (fun r s=>r=x∧s=σ.put k0 o))
  (hR:okR lt (bN ⟨dst,.call { callee := .value f,args,argTypes:=ts },ty,pos,after,gd⟩) k0=true) (hk:σ.look k0=some o0)
  (k:bO P nt ops K (i::seen) lt rest (e.put dst x) (σ.put k0 o)):bR P nt ops K seen lt ((i,⟨dst,.call { callee := .value f,args,argTypes:=ts },ty,pos,after,gd⟩)::rest) e σ :=
 Q5 k0 hw hf hx hy hok hl hc hR (fun r s h id hid=>by rw [h.2];exact (aM hk id).trans (if_neg hid)) (fun r s h=>by obtain ⟨rfl,rfl⟩:=h;exact k)
end
structure QY (n:Nat):Prop where
theorem uD (post:List aR) (c:List Fc) (t:Fm) (gr:List (Value × Fm)) (hg:gr.length≤1000) :
  aB Tryz.prog 56 [.ptr 0 0] (NV 112 post c t gr) (fun r σ'=>r = .eptr 1 gr.length 4 0∧σ'=NV 112 post c t gr):=by
 have hw:IntKind.i64.wrap ((gr.length:Int) + 1 - 1)=(gr.length:Int):=by rw [aL aI aI];omega
 refine of_body Tryz.func56 rfl rfl (nB rfl) ?_
 rw [Tryz.ntmps56]
 repeat' (first | ((with_reducible refine kw ?_);refine bJ ?_) | refine GN ?_ | ((with_reducible refine kd ?_);first | refine D0 ?_ | refine D1 ?_ | refine D2 ?_ | refine D4 ?_ | refine D6 ?_ | refine iY ?_ | (refine c7 ?_;refine Y9 ?_) | (refine nH ?_;refine dC (yO (sl rfl) rfl rfl) rfl rfl rfl rfl ?_)) | refine GA ?_ | refine GG ?_ | ((with_reducible refine kf ?_);refine aP 3 Tryz.results56 rfl rfl Z8 ?_) | refine GR ?_ | ((with_reducible refine kr ?_);refine bD rfl rfl ⟨rfl,rfl⟩) | fail)
theorem LA (c:List Fc) (b0:Nat) (fv u:Value) (t:Fm) (x:In) (hx:x.a≥0→x.a < (t.slots.length:Int)) :
  aB Tryz.prog 213 [.ptr 0 0,.d (.sc (pY fv (([]:List (Value × Fm)).length * 4 + 0))),x.dv] [some (jK c b0 fv ((u,t)::[]))] (fun r σ'=>r=Rs.dv kW d6 true (if x.a≥0 then aD t x.a else g9)∧∃ b0 fv,σ'=[some (jK c b0 fv [])]):=by
 have hne:decide ((([]:List (Value × Fm)).length:Int)=0)=true:=rfl
 have hw:IntKind.i64.wrap ((([]:List (Value × Fm)).length:Int) + 1 - 1)=(([]:List (Value × Fm)).length:Int):=by rw [aL eS eS];simp
 refine of_body Tryz.func213 rfl rfl (nB rfl) ?_
 rw [Tryz.ntmps213]
 refine jZ ?_
 refine dB (FZ (post:=[]) 1 rfl ?_)
 repeat' (first | ((with_reducible refine kw ?_);first | refine W0 ?_ | refine W1 ?_ | (refine f9 ?_;refine Y8 ?_) | refine W2 ?_ | refine W3 ?_ | refine W4 ?_ | refine W6 ?_ | refine bJ ?_ | (refine aE ?_;refine H2 ?_) | (refine kT ?_;refine KP ?_) | refine cW ?_ | refine dH ?_ | refine eV ?_) | refine GN ?_ | ((with_reducible refine kd ?_);first | refine D0 ?_ | refine D1 ?_ | (refine dI ?_;refine Y7 ?_) | refine D2 ?_ | refine D4 ?_ | refine D6 ?_ | (refine c7 ?_;refine dC (eG (el rfl) rfl rfl rfl (sz rfl) (oT ‹decide (x.a≥0)=true›) (hx (oT ‹decide (x.a≥0)=true›))) rfl rfl rfl rfl ?_) | (refine aV ?_;refine H3 ?_) | (refine nH ?_;refine KY ?_) | (refine j5 ?_;refine KZ ?_)) | refine GA ?_ | refine GG ?_ | (refine cJ (fun hb=>?_) (fun hb=>?_) <;> try rw [hb]) | ((with_reducible refine kf ?_);refine aP 1 Tryz.results213 rfl rfl rfl ?_) | ((with_reducible refine O3 ?_);refine pK (k:=0) (n:=7) (m:=2) (rows:=gI []) [kZ c] [] rfl rfl rfl rfl fun b0 fv=>?_) | refine GR ?_ | ((with_reducible refine kr ?_);refine bD rfl rfl ⟨?_,_,_,rfl⟩) | fail)
 all_goals first
  | (have h0:=oT ‹decide (x.a≥0)=true›;rw [if_pos h0];rfl)
  | (have h0:=oF ‹decide (x.a≥0)=false›;rw [if_neg h0];rfl)
  | (exfalso;have h0:=oF ‹decide ((([]:List (Value × Fm)).length:Int)=0)=false›;simp at h0)
theorem IG (c:List Fc) (b0:Nat) (fv u:Value) (t:Fm) (u2:Value) (t2:Fm) (gr:List (Value × Fm)) (x:In) (hx:x.a≥0→x.a < (t.slots.length:Int)) (ht:t.to≥0→t.to < (t2.slots.length:Int)) (hp:0≤t2.pc∧t2.pc < 4000) (hg:gr.length≤1000) :
  aB Tryz.prog 213 [.ptr 0 0,.d (.sc (pY fv (((u2,t2)::gr).length * 4 + 0))),x.dv] [some (jK c b0 fv ((u,t)::(u2,t2)::gr))] (fun r σ'=>r=RU∧∃ b0 fv u f,σ'=[some (jK c b0 fv ((u,f)::gr))]∧f=dS (if t.to≥0 then fK t2 t.to (if x.a≥0 then aD t x.a else g9) else t2)):=by
 have hne:decide ((((u2,t2)::gr).length:Int)=0)=false:=decide_eq_false KT
 have hw:IntKind.i64.wrap ((((u2,t2)::gr).length:Int) + 1 - 1)=(((u2,t2)::gr).length:Int):=by rw [aL KT KT];omega
 refine of_body Tryz.func213 rfl rfl (nB rfl) ?_
 rw [Tryz.ntmps213]
 refine jZ ?_
 refine dB (FZ (post:=[]) 1 rfl ?_)
 repeat' (first | ((with_reducible refine kw ?_);first | refine W0 ?_ | refine W1 ?_ | (refine f9 ?_;refine Y8 ?_) | refine W2 ?_ | refine W4 ?_ | refine W6 ?_ | refine bJ ?_ | (refine kT ?_;refine KP ?_) | refine cW ?_ | refine dH ?_) | refine GN ?_ | ((with_reducible refine kd ?_);first | refine D0 ?_ | refine D1 ?_ | (refine dI ?_;refine Y7 ?_) | refine D2 ?_ | refine D3 ?_ | refine D4 ?_ | refine D6 ?_ | (refine bM ?_;(first | (have g0:=‹QY 10›;have g1:=‹decide (t.to≥0)=true›;have g2:=‹decide (x.a≥0)=true›;(first | (refine eM [0,7,8] rfl rfl rfl rfl (aB.readsL (uD [] c (fK t2 t.to (aD t x.a)) gr hg) [0,7,8] rfl (mF (post:=[]) rfl rfl rfl) rfl rfl rfl rfl) rfl ?_) | (refine AZ 7 rfl rfl rfl rfl rfl rfl (BF (n:=7) (p:=8) (t:=fK t2 t.to (aD t x.a)) (gr:=gr) hp rfl rfl rfl rfl rfl) rfl rfl ?_))) | (have g0:=‹QY 10›;have g1:=‹decide (t.to≥0)=true›;have g2:=‹decide (x.a≥0)=false›;(first | (refine eM [0,7,8] rfl rfl rfl rfl (aB.readsL (uD [] c (fK t2 t.to g9) gr hg) [0,7,8] rfl (mF (post:=[]) rfl rfl rfl) rfl rfl rfl rfl) rfl ?_) | (refine AZ 7 rfl rfl rfl rfl rfl rfl (BF (n:=7) (p:=8) (t:=fK t2 t.to g9) (gr:=gr) hp rfl rfl rfl rfl rfl) rfl rfl ?_))) | (first | (refine eM [0,7,8] rfl rfl rfl rfl (aB.readsL (uD [] c (t2) gr hg) [0,7,8] rfl (mF (post:=[]) rfl rfl rfl) rfl rfl rfl rfl) rfl ?_) | (refine AZ 7 rfl rfl rfl rfl rfl rfl (BF (n:=7) (p:=8) (t:=t2) (gr:=gr) hp rfl rfl rfl rfl rfl) rfl rfl ?_)))) | (refine c7 ?_;first | refine dC (eG (el rfl) rfl rfl rfl (sz rfl) (oT ‹decide (x.a≥0)=true›) (hx (oT ‹decide (x.a≥0)=true›))) rfl rfl rfl rfl ?_ | refine dC (eG (el rfl) rfl rfl rfl (sz rfl) (oT ‹decide (t.to≥0)=true›) (ht (oT ‹decide (t.to≥0)=true›))) rfl rfl rfl rfl ?_) | (refine aV ?_;first | refine mW rfl rfl (kY rfl) rfl rfl (sz rfl) (oT ‹decide (t.to≥0)=true›) (ht (oT ‹decide (t.to≥0)=true›)) (eH.eq mD) rfl ?_ | refine gV rfl rfl (kY rfl) rfl rfl rfl rfl rfl (eH.eq mD) rfl ?_) | (refine nH ?_;refine KY ?_) | (refine j5 ?_;refine KZ ?_)) | ((with_reducible refine ka ?_);first | ((with_reducible refine i5 8 ?_);refine dB (KA 7 rfl rfl ?_);refine fI ?_) | ((with_reducible refine i5 10 ?_);have mq:QY 10:=⟨⟩;refine fI ?_)) | refine GA ?_ | refine GG ?_ | (refine cJ (fun hb=>?_) (fun hb=>?_) <;> try rw [hb]) | ((with_reducible refine kf ?_);refine aP 1 Tryz.results213 rfl rfl rfl ?_) | ((with_reducible refine O3 ?_);refine UN (n:=7) (p:=8) [] rfl rfl rfl rfl rfl fun b0 fv u=>?_) | refine GR ?_ | ((with_reducible refine kr ?_);refine bD rfl rfl ⟨?_,_,_,_,_,rfl,?_⟩) | fail)
 all_goals first
  | (exfalso;have h0:=oT ‹decide ((((u2,t2)::gr).length:Int)=0)=true›;simp at h0;omega)
  | (have g0:=‹decide (x.a≥0)=true›;have g1:=‹decide (t.to≥0)=true›;have h0:=oT g0;have h1:=oT g1;(try rw [if_pos h1]);(try rw [if_pos h0]);rfl)
  | (have g0:=‹decide (x.a≥0)=true›;have g1:=‹decide (t.to≥0)=false›;have h0:=oT g0;have h1:=oF g1;(try rw [if_neg h1]);(try rw [if_pos h0]);rfl)
  | (have g0:=‹decide (x.a≥0)=false›;have g1:=‹decide (t.to≥0)=true›;have h0:=oF g0;have h1:=oT g1;(try rw [if_pos h1]);(try rw [if_neg h0]);rfl)
  | (have g0:=‹decide (x.a≥0)=false›;have g1:=‹decide (t.to≥0)=false›;have h0:=oF g0;have h1:=oF g1;(try rw [if_neg h1]);(try rw [if_neg h0]);rfl)
section
variable {σ L:aA} {c:List Fc} {b0:Nat} {fv u:Value} {t t':Fm} {gr gs:List (Value × Fm)} {run:TypeId} {post:List aR} {ss:List Va} {e:aW} {J:aW→aA→Prop}
def DZ (σ:aA) (run:TypeId) (post:List aR) (c:List Fc) (b0:Nat) (fv u:Value) (f pc tt:Int) (ss:List Va) (gr:List (Value × Fm)) (m n p:Nat):aA :=
 aA.put (aA.put (aA.put (aA.put (aA.put (aA.put σ m (some (bS Tryz.prog 35 ((u,ss.map Va.enc)::gr.map rS)))) n (some (.arr 63 (d4 gr++[[iv f,iv pc,iv tt,.d (.sc u)]])))) p none) 0 (some (mG run post c b0 fv ((u,⟨f,pc,tt,ss⟩)::gr)))) n none) m none
theorem DT (post:List aR) {m n p:Nat} {f pc tt:Int} (hk:σ.look 0=some (.box run (bC c :: .arr n::post.map .d))) (hn:σ.look n=some (.arr 63 (d4 gr++[[iv f,iv pc,iv tt,.arr p]]))) (hm:σ.look m=some (iB gr)) (hp:σ.look p=some (.arr 35 (aS ss))) (hpn:Nat.beq p n=false)
  (h:∀ b0 fv u,J e (DZ σ run post c b0 fv u f pc tt ss gr m n p)):SC Tryz.prog e σ J:=by
 have h02:n≠m:=by rintro rfl;rw [hn] at hm;cases hm
 have hp2:p≠m:=by rintro rfl;rw [hp] at hm;cases hm
 have hn0:n≠0:=by rintro rfl;rw [hk] at hn;cases hn
 have hp0:p≠0:=by rintro rfl;rw [hk] at hp;cases hp
 have hm0:m≠0:=by rintro rfl;rw [hk] at hm;cases hm
 have hpn':p≠n:=by intro e;subst e;simp at hpn
 refine lQ (vO (n:=n) (m:=m) (p:=p) (i:=gr.length) (j:=3) (l:=gr.map rS) hm hn hpn hp (s:=ss.map Va.enc) rfl (dV rfl) rfl fun u=>?_)
 rw [mC]
 show SC Tryz.prog e (aA.put (aA.put (aA.put σ m (some (bS Tryz.prog 35 ((u,ss.map Va.enc)::gr.map rS)))) n (some (.arr 63 (d4 gr++[[iv f,iv pc,iv tt,.d (.sc u)]])))) p none) J
 have l1:(σ.put m (some (bS Tryz.prog 35 ((u,ss.map Va.enc)::gr.map rS)))).look n=some (.arr 63 (d4 gr++[[iv f,iv pc,iv tt,.arr p]])):=by rw [aM hm,if_neg h02];exact hn
 have l2:((σ.put m (some (bS Tryz.prog 35 ((u,ss.map Va.enc)::gr.map rS)))).put n (some (.arr 63 (d4 gr++[[iv f,iv pc,iv tt,.d (.sc u)]])))).look p=some (.arr 35 (aS ss)):=by rw [aM l1,if_neg hpn',aM hm,if_neg hp2];exact hp
 refine pK (k:=0) (n:=n) (m:=m) [kZ c] post (rows:=gI ((u,⟨f,pc,tt,ss⟩)::gr)) (es:=d4 gr++[[iv f,iv pc,iv tt,.d (.sc u)]]) ?_ ?_ (fM (u:=u) (t:=⟨f,pc,tt,ss⟩)).symm ?_ fun b0 fv=>h b0 fv u
 ·rw [aM l2,if_neg (Ne.symm hp0),aM l1,if_neg (Ne.symm hn0),aM hm,if_neg (Ne.symm hm0)];exact hk
 ·rw [aM l2,if_neg (Ne.symm hpn'),aM l1,if_pos rfl]
 ·rw [aM l2,if_neg (Ne.symm hp2),aM l1,if_neg (Ne.symm h02),aM hm,if_pos rfl];rfl
theorem f8 (m n:Nat) (hm:σ.look m=some (iB ((u,t)::gr))) (hn:σ.look n=some (.arr 63 (d4 ((u,t)::gr))))
  (h:J e (aA.put (aA.put σ m (some (iB gr))) n (some (.arr 63 (d4 gr++[iD t (.arr σ.length)])))++[some (.arr 35 (aS t.slots))])):SC Tryz.prog e σ J:=by
 rw [fM] at hn
 refine BJ (n:=n) (m:=m) (i:=gr.length) (j:=3) (u:=u) (s:=t.slots.map Va.enc) (l':=gr.map rS) hm hP hn (dV rfl) rfl ?_
 rw [mC];exact h
end
structure gX (c:List Fc) (t:Fm):Prop where
 f0:0≤t.fn
 f1:t.fn < (c.length:Int)
 g:¬ cH (aC c t.fn) t.pc < 0→0≤(fU (aC c t.fn) t.pc).slot∧(fU (aC c t.fn) t.pc).slot + 1 < (t.slots.length:Int)∧(t.slots.length:Int)≤200
theorem IQ {c:List Fc} {t:Fm} {f:Fa} (h:¬ cH (aC c t.fn) t.pc < 0) (hw:IntKind.i64.wrap ((fU (aC c t.fn) t.pc).slot + 1)=(fU (aC c t.fn) t.pc).slot + 1) :
  (⟨t.fn,(fU (aC c t.fn) t.pc).at',t.to,(t.slots.set (fU (aC c t.fn) t.pc).slot.toNat ⟨1,f.k,⟨#[]⟩⟩).set (IntKind.i64.wrap ((fU (aC c t.fn) t.pc).slot + 1)).toNat ⟨3,0,f.t⟩⟩:Fm)=o5 c t f:=by
 rw [hw];unfold fU o5;rw [if_neg h]
theorem FE {f:Fc} {pc:Int} (h:¬ cH f pc < 0):fU f pc=aC f.guards (cH f pc):=by unfold fU;rw [if_neg h]
theorem UB (c:List Fc) (b0:Nat) (fv:Value) (gs:List (Value × Fm)) (f:Fa) (hlen:gs.length≤1000) (hF:∀ g ∈ gs,gX c g.2) :
  aB Tryz.prog 98 [.ptr 0 0,f.dv] [some (jK c b0 fv gs)] (fun r σ'=>∃ b0 fv gs',σ'=[some (jK c b0 fv gs')]∧gs'.map (·.2)=cT c f (gs.map (·.2))∧r=bv (decide (cT c f (gs.map (·.2))≠[]))):=by
 refine of_body Tryz.func98 rfl rfl (nB rfl) ?_
 rw [Tryz.ntmps98]
 refine jZ ?_
 repeat' (first | ((with_reducible refine kw ?_);first | refine W0 ?_ | refine W1 ?_ | refine W2 ?_ | refine W4 ?_ | refine W6 ?_ | refine bJ ?_ | refine gQ ?_ | refine cW ?_) | refine GN ?_ | ((with_reducible refine kd ?_);first | refine D0 ?_ | refine D1 ?_ | refine D2 ?_ | refine D3 ?_ | refine D4 ?_ | refine D6 ?_ | refine iY ?_ | refine wP ?_ | refine pZ ?_ | refine sU ?_) | refine GA ?_ | ((with_reducible refine ka ?_);first | refine sW ?_ | refine sV ?_) | refine GG ?_ | (refine cJ (fun hb=>?_) (fun hb=>?_) <;> try rw [hb]) | ((with_reducible refine kf ?_);refine aP 0 Tryz.results98 rfl rfl rfl ?_) | refine GR ?_ | (with_reducible refine DH ?_) | refine GO ?_ ?_ | exact GB | fail)
 refine cF [0,3] rfl ?_
 refine jY 2 (n:=_) (fun n e σ=>∃ (b0:Nat) (fv:Value) (gq:List (Value × Fm)),n=gq.length∧(cT c f (gq.map (·.2))=cT c f (gs.map (·.2))∧gq.length≤1000∧∀ g ∈ gq,gX c g.2)∧e=[(0,_),(3,_)]∧σ=[some (jK c b0 fv gq),_]) rfl ⟨b0,fv,gs,rfl,⟨rfl,hlen,hF⟩,rfl,rfl⟩ ?_
 rintro n e σ ⟨b1,fv1,gq,rfl,⟨hR,hl,hG⟩,rfl,rfl⟩
 rcases gq with _ | ⟨⟨u,t⟩,gr⟩
 ·have hne:decide ((([]:List (Value × Fm)).length:Int) > 0)=false:=rfl
  repeat' (first | ((with_reducible refine kw ?_);first | refine W0 ?_ | refine W1 ?_ | refine W2 ?_ | refine W4 ?_ | refine W6 ?_ | refine bJ ?_ | (refine aE ?_;refine IB ?_) | refine gQ ?_ | (refine kT ?_;refine KP ?_) | refine cW ?_) | refine GN ?_ | ((with_reducible refine kd ?_);first | refine D0 ?_ | refine D1 ?_ | (refine dI ?_;refine BU ?_) | refine D2 ?_ | refine D3 ?_ | refine D4 ?_ | refine D6 ?_ | refine iY ?_ | (refine c7 ?_;refine Y5 ?_) | (refine aV ?_;refine Y3 ?_) | refine wP ?_ | (refine nH ?_;refine KY ?_) | refine pZ ?_ | (refine j5 ?_;refine KZ ?_) | refine sU ?_) | ((with_reducible refine ka ?_);((with_reducible refine i5 1 ?_);refine dB (kM (k:=0) rfl ?_);refine fI ?_)) | refine GA ?_ | ((with_reducible refine ka ?_);first | refine sW ?_ | refine sV ?_) | refine GG ?_ | (refine cJ (fun hb=>?_) (fun hb=>?_) <;> try rw [hb]) | ((with_reducible refine kf ?_);refine aP 1 Tryz.results98 rfl rfl rfl ?_) | (with_reducible refine DH ?_) | ((with_reducible refine O3 ?_);first | refine pK (k:=0) (n:=2) (m:=3) (rows:=gI []) [kZ c] [] rfl rfl rfl rfl fun b0 fv=>?_ | refine DT (m:=3) (n:=2) (p:=4) [] rfl rfl rfl rfl rfl fun b0 fv u=>?_) | refine GR ?_ | ((with_reducible refine kr ?_);refine bD rfl rfl ⟨_,_,_,rfl,?_,?_⟩) | refine GO ?_ ?_ | exact GB | fail)
  all_goals first
   | exact hR
   | (rw [← hR];rfl)
 ·have hne:decide ((((u,t)::gr).length:Int) > 0)=true:=decide_eq_true eS
  have hne2:decide (((gr.length:Int) + 1) > 0)=true:=decide_eq_true aI
  have hg:gr.length≤1000:=by simp at hl;omega
  have F:gX c t:=hG (u,t) eS
  have hw:IntKind.i64.wrap ((gr.length:Int) + 1 - 1)=(gr.length:Int):=by rw [aL aI aI];omega
  repeat' (first | ((with_reducible refine kw ?_);first | refine W0 ?_ | refine W1 ?_ | refine W2 ?_ | refine W4 ?_ | refine W6 ?_ | refine bJ ?_ | (refine aJ ?_;refine bB rfl rfl rfl rfl (aB.ret (aB.readsL (uD [] c t gr hg) [0,2,4] rfl (mF (post:=[]) rfl rfl rfl) rfl rfl rfl rfl _ (fun _ _=>rfl)) ?_)) | (refine aE ?_;refine IB ?_) | refine gQ ?_ | (refine kT ?_;refine KP ?_) | refine cW ?_) | refine GN ?_ | ((with_reducible refine kd ?_);first | refine D0 ?_ | refine D1 ?_ | (refine dI ?_;refine BU ?_) | refine D2 ?_ | refine D3 ?_ | refine D4 ?_ | refine D6 ?_ | refine iY ?_ | (refine bM ?_;refine dD (TW (aC c t.fn) t.pc) ?_) | (refine c7 ?_;refine Y5 ?_) | (refine aV ?_;refine Y3 ?_) | refine wP ?_ | (refine nH ?_;refine KY ?_) | refine pZ ?_ | (refine j5 ?_;refine KZ ?_) | refine sU ?_) | ((with_reducible refine ka ?_);first | ((with_reducible refine i5 1 ?_);refine dB (kM (k:=0) rfl ?_);refine fI ?_) | ((with_reducible refine i5 2 ?_);refine dB (f8 3 2 rfl rfl ?_);refine fI ?_)) | refine GA ?_ | ((with_reducible refine ka ?_);first | refine sW ?_ | refine sV ?_) | refine GG ?_ | (refine cJ (fun hb=>?_) (fun hb=>?_) <;> try rw [hb]) | ((with_reducible refine kf ?_);refine aP 1 Tryz.results98 rfl rfl rfl ?_) | (with_reducible refine DH ?_) | ((with_reducible refine O3 ?_);first | refine pK (k:=0) (n:=2) (m:=3) (rows:=gI []) [kZ c] [] rfl rfl rfl rfl fun b0 fv=>?_ | refine DT (m:=3) (n:=2) (p:=4) [] rfl rfl rfl rfl rfl fun b0 fv u=>?_) | refine GR ?_ | ((with_reducible refine kr ?_);refine bD rfl rfl ⟨_,_,_,rfl,?_,?_⟩) | refine GO ?_ ?_ | exact GB | fail)
  all_goals first
   | (have g0:cH (aC c t.fn) t.pc < 0:=(by simpa using ‹(!!decide (cH (aC c t.fn) t.pc < 0))=true›);have hR2:cT c f (gr.map (·.2))=cT c f (gs.map (·.2)):=(by rw [← hR];simp [cT,g0]);refine gE (pK (k:=0) (n:=6) (m:=3) (rows:=gI gr) [kZ c] [] rfl rfl rfl rfl fun b0 fv=>?_);refine gE (jM [0,3] rfl ?_);refine gU 2 rfl rfl rfl ?_;exact gT ⟨_,eS,b0,fv,gr,rfl,⟨hR2,by omega,fun g hg'=>hG g (by simp [hg'])⟩,rfl,rfl⟩)
   | skip
  all_goals (have g0:¬ cH (aC c t.fn) t.pc < 0:=WM;have hR3:cT c f (gs.map (·.2))=o5 c t f::gr.map (·.2):=(by rw [← hR];simp [cT,g0]);have gw:IntKind.i64.wrap ((fU (aC c t.fn) t.pc).slot + 1)=(fU (aC c t.fn) t.pc).slot + 1:=(by have gg:=F.g g0;exact aL aI aI))
  all_goals first
   | (rw [hR3,← IQ g0 gw];rfl)
   | (rw [hR3];show bv (decide ((gr.length:Int) + 1 > 0))=_;rw [hne2];exact congrArg bv (decide_eq_true eS).symm)
   | (rw [hR3];rfl)
def BN:List (Int × Nat):=[(1,206),(2,207),(3,208),(4,209),(5,210),(6,211),(7,212),(8,213),(9,214),(10,215),(11,216),(12,217),(13,218),(14,219)]
def u4:List (Value × DV):=v7 (BN.map fun p=>(p.1,DV.fn (.func p.2) [.ptr 0 0] []))
def l5 (op:Int):Nat:=(jU BN op).getD 216
theorem M7 (o:aU) (ho:o.under 2=true):aB Tryz.prog 174 [.ptr 0 0] [some o] (fun r σ'=>r = .mp 1∧σ'=[some o,some (.map u4)]):=by
 refine of_body Tryz.func174 rfl rfl (nB rfl) ?_
 rw [Tryz.ntmps174]
 repeat' (first | ((with_reducible refine kw ?_);first | refine W0 ?_ | refine bJ ?_ | refine HQ V1 rfl rfl rfl rfl rfl rfl rfl rfl ?_ | refine N3 ?_ | refine VQ ?_) | refine GA ?_ | refine GG ?_ | ((with_reducible refine kf ?_);refine aP 2 Tryz.results174 rfl rfl (by show (o.under 2 && _)=true;rw [ho];rfl) ?_) | refine GR ?_ | ((with_reducible refine kr ?_);refine bD rfl rfl ⟨rfl,?_⟩) | fail)
 all_goals first | rfl | skip
theorem zS (post:List aR) (c:List Fc) (t:Fm) (gr:List (Value × Fm)) (hf0:0≤t.fn) (hf1:t.fn < (c.length:Int)) (hp0:0≤t.pc) (hp1:t.pc < ((aC c t.fn).code.length:Int)) :
  aB Tryz.prog 95 [.ptr 0 0,.agg (iD t (.arr 2))] (NV 112 post c t gr) (fun r σ'=>r=(aN c t).dv∧σ'=NV 112 post c t gr):=by
 refine of_body Tryz.func95 rfl rfl (nB rfl) ?_
 rw [Tryz.ntmps95]
 repeat' (first | ((with_reducible refine kw ?_);first | refine cW ?_ | refine dH ?_) | refine GN ?_ | ((with_reducible refine kd ?_);first | refine D0 ?_ | refine D1 ?_ | refine D2 ?_ | refine D3 ?_ | refine D4 ?_ | (refine c7 ?_;refine SH ?_) | (refine aV ?_;refine BW ?_)) | refine GA ?_ | refine GG ?_ | ((with_reducible refine kf ?_);refine aP 3 Tryz.results95 rfl rfl Z8 ?_) | refine GR ?_ | ((with_reducible refine kr ?_);refine bD rfl rfl ⟨rfl,rfl⟩) | fail)
 all_goals skip
structure q9 (c:List Fc) (t:Fm) (r:List Fm) (x:In):Prop where
 op:1≤x.op∧x.op≤14
 f0:0≤t.fn
 f1:t.fn < (c.length:Int)
 p0:0≤t.pc
 p1:t.pc < ((aC c t.fn).code.length:Int)
 pc:t.pc < 4000
 s:(t.slots.length:Int)≤200
 n:r.length≤24
 a:x.op=1∨x.op=2∨x.op=3∨x.op=4∨x.op=6∨x.op=9∨x.op=12∨x.op=13→0≤x.a∧x.a < (t.slots.length:Int)
 b:x.op=2→0≤x.b∧x.b < (t.slots.length:Int)
 cc:x.op=3∨x.op=4→(0≤x.c∧x.c < (t.slots.length:Int))∧cQ (aD t x.c).k (aD t x.c).n (aD t x.c).s=true
 un:x.op=3→x.b=5∨x.b=6
 bi:x.op=4→(7≤x.b∧x.b≤19)∧(0:Int) < (x.l.length:Int)∧0≤aC x.l 0∧aC x.l 0 < (t.slots.length:Int)∧cQ (aD t (aC x.l 0)).k (aD t (aC x.l 0)).n (aD t (aC x.l 0)).s=true
 ca:x.op=7→0≤x.b∧x.b < (c.length:Int)∧0≤(aC c x.b).slots∧(aC c x.b).slots≤200∧x.l.length≤(aC c x.b).slots.toNat∧x.l.length≤1000∧∀ i:Nat,i < x.l.length→0≤aC x.l (i:Int)∧aC x.l (i:Int) < (t.slots.length:Int)
 re:x.op=8→(x.a≥0→x.a < (t.slots.length:Int))∧∀ u q,r=u::q→(t.to≥0→t.to < (u.slots.length:Int))∧0≤u.pc∧u.pc < 4000
 ask:x.op=10→oY c t x
 ra:x.op=14→0≤x.a∧x.a + 1 < (t.slots.length:Int)
structure Sp where
 ts:List Fm
 f:Fa
 a:Ak
 dn:Bool
 v:Va
def lF (ts:List Fm):Sp:=⟨ts,kW,d6,false,g9⟩
def k9 (ts:List Fm) (f:Fa):Sp:=⟨ts,f,d6,false,g9⟩
def cV (c:List Fc) (t:Fm) (r:List Fm) (x:In):Sp :=
 if x.op=1 then lF (dS (fK t x.a x.v)::r)
 else if x.op=2 then lF (dS (fK t x.a (aD t x.b))::r)
 else if x.op=3 then k9 ((bif dO (eN x.b (aD t x.c)).2 then dS (fK t x.a (eN x.b (aD t x.c)).1) else t)::r) (eN x.b (aD t x.c)).2
 else if x.op=4 then k9 ((bif dO (bA x.b (aD t x.c) (aD t (aC x.l 0))).2 then dS (fK t x.a (bA x.b (aD t x.c) (aD t (aC x.l 0))).1) else t)::r) (bA x.b (aD t x.c) (aD t (aC x.l 0))).2
 else if x.op=5 then lF (BV t x.a::r)
 else if x.op=6 then k9 ((if (aD t x.a).k≠2 then t else if (aD t x.a).n=0 then BV t x.b else dS t)::r) (if (aD t x.a).k≠2 then l9 eA else kW)
 else if x.op=7 then k9 (if r.length + 1=24 then t::r else eW c x.b x.a (aY t x.l)::t::r) (if r.length + 1=24 then l9 yD else kW)
 else if x.op=8 then (match r with
  | []=>⟨[],kW,d6,true,if x.a≥0 then aD t x.a else g9⟩
  | u::r=>lF (dS (if t.to≥0 then fK u t.to (if x.a≥0 then aD t x.a else g9) else u)::r))
 else if x.op=9 then k9 (t::r) (if (aD t x.a).k=3 then l9 (aD t x.a).s else l9 eA)
 else if x.op=10 then ⟨t::r,if bT c t x=true then kW else l9 eA,if bT c t x=true then bX c t x else d6,false,g9⟩
 else if x.op=11 then lF (dS t::r)
 else if x.op=12 then k9 ((if (aD t x.a).k≠1 then t else if (aD t x.a).n < 0 then t else if (aD t x.a).n≥(x.l.length:Int) then t else BV t (aC x.l (aD t x.a).n))::r) (if (aD t x.a).k≠1 then l9 eA else if (aD t x.a).n < 0 then l9 eA else if (aD t x.a).n≥(x.l.length:Int) then l9 eA else kW)
 else if x.op=13 then lF ((bif rQ (aD t x.a) then dS t else BV t x.b)::r)
 else k9 (t::r) (if cS t x.a=true∧(dJ t x.a).k≠0 then dJ t x.a else l9 eA)
abbrev Sp.dv (s:Sp):DV:=Rs.dv s.f s.a s.dn s.v
def P8 (c:List Fc) (s:Sp) (r:DV) (σ:aA):Prop:=r=s.dv∧∃ b0 fv gs,σ=[some (jK c b0 fv gs)]∧gs.map (·.2)=s.ts
theorem jG {c:List Fc} {b0:Nat} {fv u:Value} {t t':Fm} {gr:List (Value × Fm)} {k:FuncId} {xs:List DV} {f:Fa} {a:Ak} {dn:Bool} {v:Va}
  (hU:aB Tryz.prog k (.ptr 0 0 :: .eptr 1 gr.length 4 0::xs) (oX c t gr []) (fun r s=>r=Rs.dv f a dn v∧s=oX c t' gr [])) :
  aB Tryz.prog k (.ptr 0 0 :: .d (.sc (pY fv (gr.length * 4 + 0)))::xs) [some (jK c b0 fv ((u,t)::gr))] (P8 c ⟨t'::gr.map (·.2),f,a,dn,v⟩) :=
 (RH hU rfl).mono fun r s ⟨h1,b,w,q,h2⟩=>⟨h1,b,w,(q,t')::gr,h2,rfl⟩
theorem UT (c:List Fc) (b0:Nat) (fv u:Value) (t:Fm) (gr:List (Value × Fm)) (x:In) (hx:aN c t=x) (F:q9 c t (gr.map (·.2)) x) :
  aB Tryz.prog (l5 x.op) [.ptr 0 0,.d (.sc (pY fv (gr.length * 4 + 0))),x.dv] [some (jK c b0 fv ((u,t)::gr))] (P8 c (cV c t (gr.map (·.2)) x)):=by
 have hlen:(gr.map (·.2)).length=gr.length:=List.length_map _
 have hgl:gr.length≤24:=by rw [← hlen];exact F.n
 have hp:0≤t.pc∧t.pc < 4000:=⟨F.p0,F.pc⟩
 have hop:=F.op
 have h:x.op=1∨x.op=2∨x.op=3∨x.op=4∨x.op=5∨x.op=6∨x.op=7∨x.op=8∨x.op=9∨x.op=10∨x.op=11∨x.op=12∨x.op=13∨x.op=14:=by omega
 rcases h with h | h | h | h | h | h | h | h | h | h | h | h | h | h
 ·rw [show l5 x.op=206 by rw [h];rfl,show cV c t (gr.map (·.2)) x=lF (dS (fK t x.a x.v)::gr.map (·.2)) by simp [cV,h]]
  exact jG (CD c t gr x hp (F.a aI))
 ·rw [show l5 x.op=207 by rw [h];rfl,show cV c t (gr.map (·.2)) x=lF (dS (fK t x.a (aD t x.b))::gr.map (·.2)) by simp [cV,h]]
  exact jG (O8 c t gr x hp (F.a aI) (F.b h))
 ·rw [show l5 x.op=208 by rw [h];rfl,show cV c t (gr.map (·.2)) x=k9 ((bif dO (eN x.b (aD t x.c)).2 then dS (fK t x.a (eN x.b (aD t x.c)).1) else t)::gr.map (·.2)) (eN x.b (aD t x.c)).2 by simp [cV,h]]
  exact jG (KH c t gr x hp (F.a aI) (F.cc (.inl h)).1 (F.un h) (F.cc (.inl h)).2)
 ·obtain ⟨h1,h2,h3,h4,h5⟩:=F.bi h
  rw [show l5 x.op=209 by rw [h];rfl,show cV c t (gr.map (·.2)) x=k9 ((bif dO (bA x.b (aD t x.c) (aD t (aC x.l 0))).2 then dS (fK t x.a (bA x.b (aD t x.c) (aD t (aC x.l 0))).1) else t)::gr.map (·.2)) (bA x.b (aD t x.c) (aD t (aC x.l 0))).2 by simp [cV,h]]
  exact jG (EZ c t gr x hp (F.a aI) (F.cc (.inr h)).1 h2 h3 h4 h1 (F.cc (.inr h)).2 h5)
 ·rw [show l5 x.op=210 by rw [h];rfl,show cV c t (gr.map (·.2)) x=lF (BV t x.a::gr.map (·.2)) by simp [cV,h]]
  exact jG (O2 c t gr x)
 ·rw [show l5 x.op=211 by rw [h];rfl,show cV c t (gr.map (·.2)) x=k9 ((if (aD t x.a).k≠2 then t else if (aD t x.a).n=0 then BV t x.b else dS t)::gr.map (·.2)) (if (aD t x.a).k≠2 then l9 eA else kW) by simp [cV,h]]
  exact jG (KK c t gr x hp (F.a aI))
 ·obtain ⟨h1,h2,h3,h4,h5,h6,h7⟩:=F.ca h
  rw [show l5 x.op=212 by rw [h];rfl,show cV c t (gr.map (·.2)) x=k9 (if gr.length + 1=24 then t::gr.map (·.2) else eW c x.b x.a (aY t x.l)::t::gr.map (·.2)) (if gr.length + 1=24 then l9 yD else kW) by simp [cV,h]]
  exact (OI c b0 fv u t gr x h1 h2 h3 h4 (by rw [oW];exact h5) KT h6 h7).mono fun r s ⟨g1,b,w,gs,g2,g3⟩=>⟨g1,b,w,gs,g2,g3⟩
 ·rw [show l5 x.op=213 by rw [h];rfl]
  obtain ⟨h1,h2⟩:=F.re h
  cases gr with
  | nil =>
   rw [show cV c t (([]:List (Value × Fm)).map (·.2)) x=⟨[],kW,d6,true,if x.a≥0 then aD t x.a else g9⟩ by simp [cV,h]]
   exact (LA c b0 fv u t x h1).mono fun r s ⟨g1,b,w,g2⟩=>⟨g1,b,w,[],g2,rfl⟩
  | cons g gr =>
   obtain ⟨u2,t2⟩:=g
   obtain ⟨h3,h4⟩:=h2 t2 (gr.map (·.2)) rfl
   rw [show cV c t (((u2,t2)::gr).map (·.2)) x=lF (dS (if t.to≥0 then fK t2 t.to (if x.a≥0 then aD t x.a else g9) else t2)::gr.map (·.2)) by simp [cV,h]]
   exact (IG c b0 fv u t u2 t2 gr x h1 h3 h4 (by simp at hgl;omega)).mono fun r s ⟨g1,b,w,q,f,g2,g3⟩=>⟨g1,b,w,(q,f)::gr,g2,by subst g3;rfl⟩
 ·rw [show l5 x.op=214 by rw [h];rfl,show cV c t (gr.map (·.2)) x=k9 (t::gr.map (·.2)) (if (aD t x.a).k=3 then l9 (aD t x.a).s else l9 eA) by simp [cV,h]]
  exact jG (KG c t gr x (F.a aI))
 ·rw [show l5 x.op=215 by rw [h];rfl,show cV c t (gr.map (·.2)) x=⟨t::gr.map (·.2),if bT c t x=true then kW else l9 eA,if bT c t x=true then bX c t x else d6,false,g9⟩ by simp [cV,h]]
  exact jG (K8 c t gr t.pc.toNat aI F.f0 F.f1 F.p0 F.p1 x hx (F.ask h))
 ·rw [show l5 x.op=216 by rw [h];rfl,show cV c t (gr.map (·.2)) x=lF (dS t::gr.map (·.2)) by simp [cV,h]]
  exact jG (pG c t gr x hp)
 ·rw [show l5 x.op=217 by rw [h];rfl,show cV c t (gr.map (·.2)) x=k9 ((if (aD t x.a).k≠1 then t else if (aD t x.a).n < 0 then t else if (aD t x.a).n≥(x.l.length:Int) then t else BV t (aC x.l (aD t x.a).n))::gr.map (·.2)) (if (aD t x.a).k≠1 then l9 eA else if (aD t x.a).n < 0 then l9 eA else if (aD t x.a).n≥(x.l.length:Int) then l9 eA else kW) by simp [cV,h]]
  exact jG (IU c t gr x (F.a aI))
 ·rw [show l5 x.op=218 by rw [h];rfl,show cV c t (gr.map (·.2)) x=lF ((bif rQ (aD t x.a) then dS t else BV t x.b)::gr.map (·.2)) by simp [cV,h]]
  exact jG (IR c t gr x hp (F.a aI))
 ·obtain ⟨h1,h2⟩:=F.ra h
  rw [show l5 x.op=219 by rw [h];rfl,show cV c t (gr.map (·.2)) x=k9 (t::gr.map (·.2)) (if cS t x.a=true∧(dJ t x.a).k≠0 then dJ t x.a else l9 eA) by simp [cV,h]]
  exact jG (K5 c t gr x h1 h2 F.s)
end Go.Ab
