import Derived.Test.YtdeikigmgdnojaaGreatDoorT39
import Derived.Test.YtdeikigmgdnojaaGreatDoorT40
import Derived.Test.YtdeikigmgdnojaaGreatDoorT15
import Derived.Test.YtdeikigmgdnojaaGreatDoorT24
import Derived.Test.YtdeikigmgdnojaaGreatDoorT36
import Derived.Lib.ItoaNum
import Derived.Lib.Replace
import Derived.Shelf.Strings.OnBuilder
/- A part of the proof of one law. -/
set_option maxRecDepth 100000
set_option maxHeartbeats 8000000
set_option linter.unusedVariables false
set_option linter.unusedSimpArgs false
namespace Go.Ab
open Go Go.Ab.Tryz Go.Proofs
def k6 (b:UInt8):List UInt8:=if b=34∨b=92 then [92,b] else [b]
theorem j2 (c b:UInt8) (l:List UInt8):Lib.index (b::l) [c]=if c=b then 0 else if Lib.index l [c] == -1 then -1 else Lib.index l [c] + 1:=by
 rw [Lib.index]
 by_cases h:c=b <;> simp [h,List.isPrefixOf]
theorem aBY {c b:UInt8} (h:c≠b) (new:List UInt8):∀ (k:Nat) (l:List UInt8),Lib.replaceK [c] new k (b::l)=b::Lib.replaceK [c] new k l
 | 0,_=>rfl
 | k + 1,l=>by
  have hg:=Lib.index_ge l [c]
  rw [Lib.replaceK,Lib.replaceK,j2,if_neg h]
  by_cases h1:Lib.index l [c]=-1
  ·simp [h1]
  ·obtain ⟨i,hi⟩:∃ i:Nat,Lib.index l [c]=i:=⟨(Lib.index l [c]).toNat,by omega⟩
   rw [hi]
   have e1:((i:Int) == -1)=false:=by simp
   have e2:((i:Int) + 1 == -1)=false:=by simp;omega
   simp only [e1,Bool.false_eq_true,if_false,e2]
   have e3:((i:Int) + 1).toNat=i + 1:=by omega
   rw [e3,Int.toNat_natCast]
   simp
theorem aCr (c:UInt8) (new:List UInt8) (k:Nat) (l:List UInt8):Lib.replaceK [c] new (k + 1) (c::l)=new++Lib.replaceK [c] new k l:=by
 rw [Lib.replaceK,j2,if_pos rfl]
 simp
theorem aBG (c:UInt8) (new:List UInt8):∀ (l:List UInt8),Lib.replaceK [c] new (Lib.count l [c]) l=l.flatMap fun b=>if b=c then new else [b]
 | []=>by rw [Lib.count_one];rfl
 | b::l=>by
  rw [List.flatMap_cons,← aBG c new l]
  by_cases h:b=c
  ·subst h;rw [Lib.count_cons_eq,Nat.add_comm 1,aCr,if_pos rfl]
  ·rw [Lib.count_cons_ne _ _ _ h,aBY (fun e=>h e.symm),if_neg h];rfl
theorem hB (c:UInt8) (new l:List UInt8) (h:new≠[c]):Lib.replaceAll l [c] new=l.flatMap fun b=>if b=c then new else [b]:=by
 unfold Lib.replaceAll Lib.replace Lib.replaceNum
 rw [if_neg (by simpa using fun e=>h e.symm),if_pos (.inl (by decide))]
 exact aBG c new l
theorem aCM (t:ByteArray):(FA t).data.toList=t.data.toList.flatMap k6:=by
 have h1:(pV t NU yC).data.toList=t.data.toList.flatMap fun b=>if b=92 then [92,92] else [b]:=by
  show (Lib.replaceAll t.data.toList [92] [92,92])=_
  exact hB 92 [92,92] _ (by decide)
 have h2:∀ s:ByteArray,(pV s QJ SQ).data.toList=s.data.toList.flatMap fun b=>if b=34 then [92,34] else [b]:=fun s=>by
  show (Lib.replaceAll s.data.toList [34] [92,34])=_
  exact hB 34 [92,34] _ (by decide)
 unfold FA
 rw [h2,h1,List.flatMap_assoc]
 congr 1
 funext b
 unfold k6
 by_cases h:b=92
 ·subst h;rfl
 ·by_cases h':b=34
  ·subst h';rfl
  ·simp [h,h']
def t1 (l:List UInt8):List UInt8:=34::(l.flatMap k6++[34])
theorem p4 (t:ByteArray):HE t=⟨(t1 t.data.toList).toArray⟩:=by
 apply ByteArray.ext
 rw [← Array.toList_inj]
 unfold HE t1
 have e1:∀ a c:ByteArray,(a++c).data.toList=a.data.toList++c.data.toList:=fun a c=>by rw [ByteArray.data_append,Array.toList_append]
 rw [e1,e1,aCM]
 rfl
theorem s5 (u:Nat):Lib.decDigits u=(if u / 10=0 then [] else Lib.decDigits (u / 10))++[UInt8.ofNat (48 + u % 10)]:=by
 rw [Lib.decDigits]
 by_cases h:u < 10
 ·rw [dif_pos h,if_pos (by omega),Nat.mod_eq_of_lt h];rfl
 ·rw [dif_neg h,if_neg (by omega)]
def a0 (n:Int):ByteArray:=⟨(Lib.itoa n).toArray⟩
end Go.Ab
namespace Go.Ab
open Go Go.Ab.Tryz Go.Proofs Go.RowKit
abbrev aBH (l:List UInt8) (bs:List Nat):aU:=j3 132 5 l bs
theorem aDk:Lays.n166 Tryz.prog Tryz.lays156_ren:={ Tryz.lays156 with }
theorem aC7:Lays.n169 Tryz.prog Tryz.lays156_ren:={ Tryz.lays156 with }
theorem m2 (s:ByteArray):Lib.strCells s=Lib.byteCells s.data.toList:=by
 apply List.ext_getElem?
 intro i
 simp [Lib.strCells,Lib.byteCells]
theorem aBL (l:List UInt8) (bs:List Nat) (s:ByteArray) (hs:0 < s.size) (hlen:l.length + s.size≤140737488355328) :
  aB Tryz.prog 67 [.ptr 0 0,sv s] [some (aBH l bs)] (fun r σ'=>∃ bs':List Nat,True∧r = .tup [iv s.size,.d (.sc .nilIface)]∧σ'=[some (aBH (l++s.data.toList) bs')]):=by
 refine o2 (O:=fun bs'=>some (aBH (l++s.data.toList) bs')) (by kernel_rfl) fun X ι w M b p u vs hp hat hnil hr=>?_
 obtain ⟨c,rfl⟩:∃ c,vs=[c]:=by
  match vs,hr.len with
  | [c],_=>exact ⟨c,rfl⟩
 have hc:=(hr.get 0 _ c rfl rfl).sc_inv.1
 subst hc
 refine (aCF aDk Tryz.Builder_Extra_156 hp s hat (by rw [Lib.byteCells_length];exact hlen)).mono ?_
 rintro en w' ⟨rfl,u',hat',hf,hrow⟩
 refine ⟨_,b::u'.ownBlock.toList,rfl,fun ι M=>?_,hf,fun k hk=>?_,fun k hk=>?_,fun o ho=>?_⟩
 ·refine .tup _ _ rfl fun i x y hx hy=>?_
  match i,hx,hy with
  | 0,hx,hy=>simp at hx hy;subst hx hy;exact .d (.sc _ (by simp [pU,IntKind.min,IntKind.max,IntKind.bits,IntKind.signed];omega))
  | 1,hx,hy=>simp at hx hy;subst hx hy;exact .d (.sc _ rfl)
  | i + 2,hx,hy=>simp at hx
 ·rcases List.mem_cons.1 hk with rfl | hk
  ·exact .inl rfl
  ·exact .inr (hrow k (by simpa using hk))
 ·rcases List.mem_cons.1 hk with rfl | hk
  ·exact hat'.lt
  ·have hk':u'.ownBlock=some k:=by simpa using hk
   rcases hat'.own.2 with ⟨rfl,_⟩ | ⟨g,_,_,_,rfl,_,hg,_⟩
   ·simp [Value.ownBlock] at hk'
   ·simp [Value.ownBlock] at hk';subst hk';exact (Array.getElem?_eq_some_iff.1 hg).1
 ·cases ho
  refine ⟨_,rfl,k3,fun M=>⟨b,e9 b,u',rfl,by simp,.inr rfl,?_,fun g hg=>by simp [hg],fun h=>?_⟩⟩
  ·rw [m2] at hat'
   rw [show Lib.byteCells (l++s.data.toList)=Lib.byteCells l++Lib.byteCells s.data.toList by simp [Lib.byteCells]]
   exact hat'
  ·exfalso
   have h1:=congrArg List.length h
   rw [List.length_append,List.length_nil] at h1
   have h2:s.size=s.data.toList.length:=by rw [Array.length_toList];rfl
   omega
theorem aBA (l:List UInt8) (bs:List Nat) (hlen:l.length≤140737488355328) :
  aB Tryz.prog 69 [.ptr 0 0] [some (aBH l bs)] (fun r σ'=>∃ bs':List Nat,True∧r=sv ⟨l.toArray⟩∧σ'=[none]):=by
 refine o2 (O:=fun bs'=>none) (by kernel_rfl) fun X ι w M b p u vs hp hat hnil hr=>?_
 obtain rfl:vs=[]:=by
  match vs,hr.len with
  | [],_=>rfl
 have hv:∀ (w':World) ι M,aX ι w' M (sv ⟨l.toArray⟩) (.string ⟨l.toArray⟩):=fun w' ι M => .d (.sc _ (okv_bytes hlen))
 by_cases hl:l=[]
 ·subst hl
  have hu:=hnil rfl
  subst hu
  refine (aBB aC7 Tryz.Builder_Extra_156 hat.cells).mono ?_
  rintro en w' ⟨rfl,hf⟩
  exact ⟨_,[],rfl,hv w',hf.mono (fun _ _ h=>h.elim),fun k hk=>by simp at hk,fun k hk=>by simp at hk,fun o ho=>by cases ho⟩
 ·refine (aB8 aC7 Tryz.Builder_Extra_156 hat hl).mono ?_
  rintro en w' ⟨rfl,hf⟩
  exact ⟨_,[],rfl,hv w',hf.mono (fun _ _ h => .inr h),fun k hk=>by simp at hk,fun k hk=>by simp at hk,fun o ho=>by cases ho⟩
theorem aDq:(List.range 11).filter (isPow Tryz.prog)=[2]:=by kernel_rfl
theorem aCH:isPow Tryz.prog 2=true:=by kernel_rfl
theorem aDl:Tryz.prog.globalNamed "internal/strconv.uint64pow10" = some 2:=by kernel_rfl
theorem aCq:powTab=(Lib.pow10Tab.map fun z=>Value.int .u64 z).toArray:=by
 unfold powTab Lib.pow10Tab
 rw [List.map_map]
 rfl
theorem g0 (n:Int) (h0:-9223372036854775808≤n) (h1:n≤9223372036854775807):(Lib.itoa n).length≤20:=by
 have hd:∀ u:Nat,u < 10 ^ 19→Lib.nDigits u≤19:=by
  intro u hu
  by_cases h:u=0
  ·subst h;rw [Lib.nDigits_small (by omega)];omega
  ·have hk:∀ k,u < 10 ^ (k + 1)→Lib.nDigits u≤k + 1:=by
    intro k
    induction k with
    | zero=>intro h;rw [Lib.nDigits_small (by omega)];omega
    | succ k ih =>
     intro h
     by_cases hk:u < 10 ^ (k + 1)
     ·have:=ih hk;omega
     ·rw [Lib.nDigits_unique (k + 1) u (by omega) h];omega
   exact hk 18 hu
 unfold Lib.itoa
 split
 ·rw [List.length_cons,Lib.decDigits_length];have:=hd n.natAbs (by omega);omega
 ·rw [Lib.decDigits_length];have:=hd n.toNat (by omega);omega
theorem d2 (n:Int) (h0:-9223372036854775808≤n) (h1:n≤9223372036854775807):bY Tryz.prog 65 [iv n] (sv (a0 n)):=by
 refine bY.of_calls (by kernel_rfl) fun X w vs hh hr=>?_
 obtain ⟨t,fz,hp⟩:=(L5 hh (by simp [JG,aCH]:JG Tryz.prog 2=true)).pow aCH
 obtain ⟨a,rfl⟩:∃ a,vs=[a]:=by
  match vs,hr.len with
  | [a],_=>exact ⟨a,rfl⟩
 have ha:=(hr.get 0 _ a rfl rfl).sc_inv.1
 subst ha
 have htab:Lib.TabIs Tryz.prog w "internal/strconv.uint64pow10" .u64 Lib.pow10Tab:=by
  unfold Lib.TabIs World.var?
  rw [aDl]
  simp only [Option.bind_some,hp,aCq]
 refine (Tryz.strconv_Itoa n h0 h1 w htab).mono ?_
 rintro e w' ⟨rfl,k,os,rfl⟩
 have hl:=g0 n h0 h1
 exact ⟨_,rfl,fun Y _ _ => .d (.sc _ (okv_bytes (by unfold gY;omega))),⟨rfl,rfl,rfl,by show w.heap.size≤(w.heap++os).size;rw [Array.size_append];omega,fun j hj=>by
  show (w.heap++os)[j]? = _
  rw [Array.getElem?_append_left hj]⟩⟩
def hG (xs:List ByteArray) (sep:ByteArray):ByteArray:=⟨(Lib.join (xs.map (·.data.toList)) sep.data.toList).toArray⟩
theorem aCn (xs:List ByteArray) (sep:ByteArray) (h0:xs≠[]) (hN:xs.length≤140737488355328) (hlen:(hG xs sep).size≤140737488355328) :
  bY Tryz.prog 111 [.d (.lst (xs.map fun s=>[.sc (.string s)])),sv sep] (sv (hG xs sep)):=by
 have hlen':(Lib.join (xs.map (·.data.toList)) sep.data.toList).length≤140737488355328:=by
  have:(hG xs sep).size=(Lib.join (xs.map (·.data.toList)) sep.data.toList).length:=by
   show (Lib.join (xs.map (·.data.toList)) sep.data.toList).toArray.size=_
   simp
  omega
 refine bY.of_calls (by kernel_rfl) fun X w vs hh hr=>?_
 obtain ⟨a,c,rfl⟩:∃ a c,vs=[a,c]:=by
  match vs,hr.len with
  | [a,c],_=>exact ⟨a,c,rfl⟩
 have hc:=(hr.get 1 _ c rfl rfl).sc_inv.1
 subst hc
 have ha:=hr.get 0 _ a rfl rfl
 generalize hes:(xs.map fun s=>([.sc (.string s)]:List aR))=es at ha
 have key:∀ (b o n c:Nat),es.length=n→n≤c→b < w.heap.size→(∀ (j:Nat) x,xs[j]? = some x→w.cell? ⟨b,o + j,none⟩=some (.string x))→a = .slice (some ⟨b,o,none⟩) n c→Calls Tryz.prog 111 [a,.string sep].toArray w fun e w'=>∃ v,e = .returned v∧(∀ Y,(∀ b,Y b→b < w.heap.size)→(∀ b,Y b→X b)→aX (fun _=>none) w' Y (sv (hG xs sep)) v)∧Below w.heap.size w w':=by
  intro b o n c hn hc hb hcells ha
  subst ha
  have hn':n=xs.length:=by rw [← hn,← hes,List.length_map]
  subst hn'
  refine (Tryz.strings_Join b o c xs sep w hcells hb hN hc hlen').mono ?_
  rintro e w' ⟨rfl,hbl⟩
  exact ⟨_,rfl,fun Y _ _ => .d (.sc _ (okv_bytes (by unfold gY;omega))),hbl⟩
 cases ha with
 | d hd =>
  cases hd with
  | emp A c=>simp at hes;exact absurd hes h0
  | lst b o n c size es' vs' hn hc hm hb hM hs hcell hrel =>
   refine key b o n c hn hc hb (fun j x hx=>?_) rfl
   have e1:es[j]? = some [.sc (.string x)]:=by rw [← hes,List.getElem?_map,hx];rfl
   have hsz:size=1:=by rw [← hs j _ e1];rfl
   have h1:=hcell j 0 _ _ e1 rfl
   have h2:=hrel j 0 _ _ e1 rfl
   have h3:vs' j 0 = .string x:=by
    generalize vs' j 0=q at h2
    cases h2;rfl
   rw [h3,hsz] at h1
   simpa using h1
end Go.Ab
namespace Go.Ab
open Go Go.Ab.Tryz Go.Proofs
abbrev aDa:ByteArray:=⟨#[116,114,117,101]⟩
abbrev aCS:ByteArray:=⟨#[102,97,108,115,101]⟩
abbrev aB5:ByteArray:=⟨#[117,110,105,116]⟩
abbrev l2:ByteArray:=⟨#[99,104,97,110]⟩
abbrev m0:ByteArray:=⟨#[116,97,115,107]⟩
abbrev l3:ByteArray:=⟨#[108,111,99,107]⟩
abbrev hC:ByteArray:=⟨#[35]⟩
def e0 (b:Bool):ByteArray:=bif b then aDa else aCS
abbrev aCP:List (Value × DV):=[(.int .i64 4,sv l2),(.int .i64 5,sv m0),(.int .i64 6,sv l3)]
abbrev aCO:List (Value × Bool × List aR):=[(.int .i64 4,false,[.sc (.string l2)]),(.int .i64 5,false,[.sc (.string m0)]),(.int .i64 6,false,[.sc (.string l3)])]
theorem a1 (n:Int) (h0:-9223372036854775808≤n) (h1:n≤9223372036854775807):(a0 n).size≤20:=by
 have:=g0 n h0 h1
 show (Lib.itoa n).toArray.size≤20
 simpa using this
theorem aCN (b:Bool) :
  bY Tryz.prog 148 [bv b] (sv (e0 b)):=by
 refine of_body Tryz.func148 rfl rfl (nB rfl) ?_
 rw [Tryz.ntmps148]
 repeat' (first | ((with_reducible refine kw ?_);first | refine W0 ?_ | refine bJ ?_) | refine GA ?_ | refine GG ?_ | (refine cJ (fun hb=>?_) (fun hb=>?_) <;> try rw [hb]) | ((with_reducible refine kf ?_);refine aP 0 Tryz.results148 rfl rfl rfl ?_) | refine GR ?_ | ((with_reducible refine kr ?_);refine aG rfl ?_) | refine GO ?_ ?_ | exact GB | fail)
 all_goals (refine dG ?_;first | (simp_all only [e0,dT,dF,gt_iff_lt,ge_iff_le,b0,b1,b2,b3,b4,true_or,or_true,false_or,or_false,true_and,and_true,and_false,false_and,and_self,or_self,if_true,if_false,ite_true,ite_false,not_true_eq_false,not_false_eq_true,b5,b6,b7,b8,c1,c2,b9,c0,c3,c4,decide_true,decide_false,reduceCtorEq,ne_eq];first | done | rfl) | (simp_all [DV.norm,DV.norms,bG,aH,e0];first | done | omega))
theorem aCG (b:Bool) :
  bY Tryz.prog 107 [bv b] (sv (e0 b)):=by
 refine of_body Tryz.func107 rfl rfl (nB rfl) ?_
 rw [Tryz.ntmps107]
 repeat' (first | ((with_reducible refine kw ?_);first | refine W0 ?_ | refine bJ ?_ | (refine aJ ?_;refine tD (aCN _) ?_)) | refine GA ?_ | refine GG ?_ | (refine cJ (fun hb=>?_) (fun hb=>?_) <;> try rw [hb]) | ((with_reducible refine kf ?_);refine aP 0 Tryz.results107 rfl rfl rfl ?_) | refine GR ?_ | ((with_reducible refine kr ?_);refine aG rfl ?_) | refine GO ?_ ?_ | exact GB | fail)
 all_goals rfl
theorem aBT:aB Tryz.prog 109 [] [] (fun r σ=>r = .mp 0∧σ=[some (.map aCP)]):=by
 refine of_body Tryz.func109 rfl rfl (nB rfl) ?_
 rw [Tryz.ntmps109]
 repeat' (first | ((with_reducible refine kw ?_);first | refine W0 ?_ | refine bJ ?_ | refine HQ V1 rfl rfl rfl rfl rfl rfl rfl rfl ?_ | refine VQ ?_) | refine GA ?_ | refine GG ?_ | (refine cJ (fun hb=>?_) (fun hb=>?_) <;> try rw [hb]) | ((with_reducible refine kf ?_);refine aP 1 Tryz.results109 rfl rfl rfl ?_) | refine GR ?_ | ((with_reducible refine kr ?_);first | refine aG rfl ?_ | refine t8 rfl ?_) | refine GO ?_ ?_ | exact GB | fail)
 exact ⟨rfl,rfl⟩
theorem hD:bY Tryz.prog 109 [] (.d (.mp aCO)):=aB.frozen aBT (fun r σ' ⟨h1,h2⟩=>by
 subst h1 h2
 refine cA.map rfl rfl fun i k d h=>?_
 match i,h with
 | 0,h=>cases h;exact ⟨false,_,rfl,.inr ⟨rfl,_,rfl,cA.d⟩⟩
 | 1,h=>cases h;exact ⟨false,_,rfl,.inr ⟨rfl,_,rfl,cA.d⟩⟩
 | 2,h=>cases h;exact ⟨false,_,rfl,.inr ⟨rfl,_,rfl,cA.d⟩⟩
 | i + 3,h=>simp at h)
theorem aB7 (k n:Int) (s:ByteArray) (hv:cQ k n s=false):bY Tryz.prog 66 [.agg [iv k,iv n,sv s]] (.tup [sv ⟨#[]⟩,iv 2]):=by
 refine of_body Tryz.func66 rfl rfl (nB rfl) ?_
 rw [Tryz.ntmps66]
 repeat' (first | ((with_reducible refine kw ?_);first | refine W1 ?_ | refine W3 ?_ | refine W2 ?_ | refine W6 ?_ | refine WK ?_ | refine bJ ?_ | (refine aJ ?_;refine tD (l7 _ _ _) ?_) | refine gQ ?_ | refine iZ ?_ | refine cW ?_) | refine GN ?_ | ((with_reducible refine kd ?_);first | refine D1 ?_ | refine D3 ?_ | refine D2 ?_ | refine D6 ?_ | refine sO ?_ | refine iY ?_ | (refine bM ?_;refine dD (l7 _ _ _) ?_) | refine SV ?_) | refine GA ?_ | refine GG ?_ | (refine cJ (fun hb=>?_) (fun hb=>?_) <;> try rw [hb]) | ((with_reducible refine kf ?_);refine aP 0 Tryz.results66 rfl rfl rfl ?_) | refine GR ?_ | ((with_reducible refine kr ?_);refine aG rfl ?_) | refine GO ?_ ?_ | exact GB | fail)
 all_goals first | rfl | (simp_all;done) | skip
theorem aCY (n:Int) (s:ByteArray) (hv:cQ 0 n s=true):bY Tryz.prog 66 [.agg [iv 0,iv n,sv s]] (.tup [sv (aB5),iv 0]):=by
 refine aB.assume rfl fun hok _=>?_
 have hn:-9223372036854775808≤n∧n≤9223372036854775807:=a6 (hok (.agg [iv 0,iv n,sv s]) eS (.sc (.int .i64 n)) eS)
 refine of_body Tryz.func66 rfl rfl (nB rfl) ?_
 rw [Tryz.ntmps66]
 repeat' (first | ((with_reducible refine kw ?_);first | refine W1 ?_ | refine W3 ?_ | refine W2 ?_ | refine W6 ?_ | refine WK ?_ | refine bJ ?_ | (refine aJ ?_;refine tD (l7 _ _ _) ?_) | refine gQ ?_ | refine iZ ?_ | refine cW ?_) | refine GN ?_ | ((with_reducible refine kd ?_);first | refine D1 ?_ | refine D3 ?_ | refine D2 ?_ | refine D6 ?_ | refine sO ?_ | refine iY ?_ | (refine bM ?_;refine dD (l7 _ _ _) ?_) | refine SV ?_) | refine GA ?_ | refine GG ?_ | refine qG cN ?_ | refine qF cN ?_ | refine nP cN ?_ | refine pX cN ?_ | (refine cJ (fun hb=>?_) (fun hb=>?_) <;> try rw [hb]) | ((with_reducible refine kf ?_);refine aP 0 Tryz.results66 rfl rfl rfl ?_) | refine GR ?_ | ((with_reducible refine kr ?_);refine aG rfl ?_) | refine GO ?_ ?_ | exact GB | fail)
 all_goals first | rfl | (simp_all;done) | skip
theorem aCW (n:Int) (s:ByteArray) (hv:cQ 1 n s=true):bY Tryz.prog 66 [.agg [iv 1,iv n,sv s]] (.tup [sv (a0 n),iv 0]):=by
 refine aB.assume rfl fun hok _=>?_
 have hn:-9223372036854775808≤n∧n≤9223372036854775807:=a6 (hok (.agg [iv 1,iv n,sv s]) eS (.sc (.int .i64 n)) eS)
 refine of_body Tryz.func66 rfl rfl (nB rfl) ?_
 rw [Tryz.ntmps66]
 repeat' (first | ((with_reducible refine kw ?_);first | refine W1 ?_ | refine W3 ?_ | refine W2 ?_ | refine W6 ?_ | refine WK ?_ | refine bJ ?_ | (refine aJ ?_;first | refine tD (l7 _ _ _) ?_ | refine tD (d2 n hn.1 hn.2) ?_) | refine gQ ?_ | refine iZ ?_ | refine cW ?_) | refine GN ?_ | ((with_reducible refine kd ?_);first | refine D1 ?_ | refine D3 ?_ | refine D2 ?_ | refine D6 ?_ | refine sO ?_ | refine iY ?_ | (refine bM ?_;first | refine dD (l7 _ _ _) ?_ | refine dD (d2 n hn.1 hn.2) ?_) | refine SV ?_) | refine GA ?_ | refine GG ?_ | refine qG cN ?_ | refine qF cN ?_ | refine nP cN ?_ | refine pX cN ?_ | (refine cJ (fun hb=>?_) (fun hb=>?_) <;> try rw [hb]) | ((with_reducible refine kf ?_);refine aP 0 Tryz.results66 rfl rfl rfl ?_) | refine GR ?_ | ((with_reducible refine kr ?_);refine aG rfl ?_) | refine GO ?_ ?_ | exact GB | fail)
 all_goals first | rfl | (simp_all;done) | skip
theorem aCV (n:Int) (s:ByteArray) (hv:cQ 2 n s=true):bY Tryz.prog 66 [.agg [iv 2,iv n,sv s]] (.tup [sv (e0 (decide (n=1))),iv 0]):=by
 refine aB.assume rfl fun hok _=>?_
 have hn:-9223372036854775808≤n∧n≤9223372036854775807:=a6 (hok (.agg [iv 2,iv n,sv s]) eS (.sc (.int .i64 n)) eS)
 refine of_body Tryz.func66 rfl rfl (nB rfl) ?_
 rw [Tryz.ntmps66]
 repeat' (first | ((with_reducible refine kw ?_);first | refine W1 ?_ | refine W3 ?_ | refine W2 ?_ | refine W6 ?_ | refine WK ?_ | refine bJ ?_ | (refine aJ ?_;first | refine tD (l7 _ _ _) ?_ | refine tD (aCG _) ?_) | refine gQ ?_ | refine iZ ?_ | refine cW ?_) | refine GN ?_ | ((with_reducible refine kd ?_);first | refine D1 ?_ | refine D3 ?_ | refine D2 ?_ | refine D6 ?_ | refine sO ?_ | refine iY ?_ | (refine bM ?_;first | refine dD (l7 _ _ _) ?_ | refine dD (aCG _) ?_) | refine SV ?_) | refine GA ?_ | refine GG ?_ | refine qG cN ?_ | refine qF cN ?_ | refine nP cN ?_ | refine pX cN ?_ | (refine cJ (fun hb=>?_) (fun hb=>?_) <;> try rw [hb]) | ((with_reducible refine kf ?_);refine aP 0 Tryz.results66 rfl rfl rfl ?_) | refine GR ?_ | ((with_reducible refine kr ?_);refine aG rfl ?_) | refine GO ?_ ?_ | exact GB | fail)
 all_goals first | rfl | (simp_all;done) | skip
theorem aCX (n:Int) (s:ByteArray) (hv:cQ 3 n s=true):bY Tryz.prog 66 [.agg [iv 3,iv n,sv s]] (.tup [sv (HE s),iv 0]):=by
 refine aB.assume rfl fun hok _=>?_
 have hn:-9223372036854775808≤n∧n≤9223372036854775807:=a6 (hok (.agg [iv 3,iv n,sv s]) eS (.sc (.int .i64 n)) eS)
 have hx:bP s=true:=by unfold cQ at hv;simp at hv;exact hv.2
 refine of_body Tryz.func66 rfl rfl (nB rfl) ?_
 rw [Tryz.ntmps66]
 repeat' (first | ((with_reducible refine kw ?_);first | refine W1 ?_ | refine W3 ?_ | refine W2 ?_ | refine W6 ?_ | refine WK ?_ | refine bJ ?_ | (refine aJ ?_;first | refine tD (l7 _ _ _) ?_ | refine tD (MQ s hx) ?_) | refine gQ ?_ | refine iZ ?_ | refine cW ?_) | refine GN ?_ | ((with_reducible refine kd ?_);first | refine D1 ?_ | refine D3 ?_ | refine D2 ?_ | refine D6 ?_ | refine sO ?_ | refine iY ?_ | (refine bM ?_;first | refine dD (l7 _ _ _) ?_ | refine dD (MQ s hx) ?_) | refine SV ?_) | refine GA ?_ | refine GG ?_ | refine qG cN ?_ | refine qF cN ?_ | refine nP cN ?_ | refine pX cN ?_ | (refine cJ (fun hb=>?_) (fun hb=>?_) <;> try rw [hb]) | ((with_reducible refine kf ?_);refine aP 0 Tryz.results66 rfl rfl rfl ?_) | refine GR ?_ | ((with_reducible refine kr ?_);refine aG rfl ?_) | refine GO ?_ ?_ | exact GB | fail)
 all_goals first | rfl | (simp_all;done) | skip
theorem aCx (n:Int) (s:ByteArray) (hv:cQ 4 n s=true):bY Tryz.prog 66 [.agg [iv 4,iv n,sv s]] (.tup [sv (l2++hC++a0 n),iv 0]):=by
 refine aB.assume rfl fun hok _=>?_
 have hn:-9223372036854775808≤n∧n≤9223372036854775807:=a6 (hok (.agg [iv 4,iv n,sv s]) eS (.sc (.int .i64 n)) eS)
 have hl:=a1 n hn.1 hn.2
 refine of_body Tryz.func66 rfl rfl (nB rfl) ?_
 rw [Tryz.ntmps66]
 repeat' (first | ((with_reducible refine kw ?_);first | refine W1 ?_ | refine W3 ?_ | refine W2 ?_ | (refine EK ?_;refine cK (VB rfl rfl (by first | (show 5 + _≤_;omega) | (show 4 + 1≤_;omega))) rfl rfl ?_) | refine W6 ?_ | refine WK ?_ | refine bJ ?_ | (refine aJ ?_;first | refine tD (l7 _ _ _) ?_ | refine tD hD ?_ | refine tD (d2 n hn.1 hn.2) ?_) | refine gQ ?_ | refine iZ ?_ | refine cW ?_) | refine GN ?_ | ((with_reducible refine kd ?_);first | refine D1 ?_ | refine D3 ?_ | refine D2 ?_ | (refine TN ?_;refine IX (VB rfl rfl (by first | (show 5 + _≤_;omega) | (show 4 + 1≤_;omega))) rfl rfl rfl ?_) | refine D6 ?_ | refine sO ?_ | refine iY ?_ | (refine bM ?_;first | refine dD hD ?_ | refine dD (d2 n hn.1 hn.2) ?_) | refine SV ?_) | refine GA ?_ | refine GG ?_ | refine qG cN ?_ | refine qF cN ?_ | refine nP cN ?_ | refine pX cN ?_ | (refine cJ (fun hb=>?_) (fun hb=>?_) <;> try rw [hb]) | ((with_reducible refine kf ?_);refine aP 0 Tryz.results66 rfl rfl rfl ?_) | refine GR ?_ | ((with_reducible refine kr ?_);refine aG rfl ?_) | refine GO ?_ ?_ | exact GB | fail)
 all_goals first | rfl | (simp_all;done) | skip
theorem aCy (n:Int) (s:ByteArray) (hv:cQ 5 n s=true):bY Tryz.prog 66 [.agg [iv 5,iv n,sv s]] (.tup [sv (m0++hC++a0 n),iv 0]):=by
 refine aB.assume rfl fun hok _=>?_
 have hn:-9223372036854775808≤n∧n≤9223372036854775807:=a6 (hok (.agg [iv 5,iv n,sv s]) eS (.sc (.int .i64 n)) eS)
 have hl:=a1 n hn.1 hn.2
 refine of_body Tryz.func66 rfl rfl (nB rfl) ?_
 rw [Tryz.ntmps66]
 repeat' (first | ((with_reducible refine kw ?_);first | refine W1 ?_ | refine W3 ?_ | refine W2 ?_ | (refine EK ?_;refine cK (VB rfl rfl (by first | (show 5 + _≤_;omega) | (show 4 + 1≤_;omega))) rfl rfl ?_) | refine W6 ?_ | refine WK ?_ | refine bJ ?_ | (refine aJ ?_;first | refine tD (l7 _ _ _) ?_ | refine tD hD ?_ | refine tD (d2 n hn.1 hn.2) ?_) | refine gQ ?_ | refine iZ ?_ | refine cW ?_) | refine GN ?_ | ((with_reducible refine kd ?_);first | refine D1 ?_ | refine D3 ?_ | refine D2 ?_ | (refine TN ?_;refine IX (VB rfl rfl (by first | (show 5 + _≤_;omega) | (show 4 + 1≤_;omega))) rfl rfl rfl ?_) | refine D6 ?_ | refine sO ?_ | refine iY ?_ | (refine bM ?_;first | refine dD hD ?_ | refine dD (d2 n hn.1 hn.2) ?_) | refine SV ?_) | refine GA ?_ | refine GG ?_ | refine qG cN ?_ | refine qF cN ?_ | refine nP cN ?_ | refine pX cN ?_ | (refine cJ (fun hb=>?_) (fun hb=>?_) <;> try rw [hb]) | ((with_reducible refine kf ?_);refine aP 0 Tryz.results66 rfl rfl rfl ?_) | refine GR ?_ | ((with_reducible refine kr ?_);refine aG rfl ?_) | refine GO ?_ ?_ | exact GB | fail)
 all_goals first | rfl | (simp_all;done) | skip
theorem aCz (n:Int) (s:ByteArray) (hv:cQ 6 n s=true):bY Tryz.prog 66 [.agg [iv 6,iv n,sv s]] (.tup [sv (l3++hC++a0 n),iv 0]):=by
 refine aB.assume rfl fun hok _=>?_
 have hn:-9223372036854775808≤n∧n≤9223372036854775807:=a6 (hok (.agg [iv 6,iv n,sv s]) eS (.sc (.int .i64 n)) eS)
 have hl:=a1 n hn.1 hn.2
 refine of_body Tryz.func66 rfl rfl (nB rfl) ?_
 rw [Tryz.ntmps66]
 repeat' (first | ((with_reducible refine kw ?_);first | refine W1 ?_ | refine W3 ?_ | refine W2 ?_ | (refine EK ?_;refine cK (VB rfl rfl (by first | (show 5 + _≤_;omega) | (show 4 + 1≤_;omega))) rfl rfl ?_) | refine W6 ?_ | refine WK ?_ | refine bJ ?_ | (refine aJ ?_;first | refine tD (l7 _ _ _) ?_ | refine tD hD ?_ | refine tD (d2 n hn.1 hn.2) ?_) | refine gQ ?_ | refine iZ ?_ | refine cW ?_) | refine GN ?_ | ((with_reducible refine kd ?_);first | refine D1 ?_ | refine D3 ?_ | refine D2 ?_ | (refine TN ?_;refine IX (VB rfl rfl (by first | (show 5 + _≤_;omega) | (show 4 + 1≤_;omega))) rfl rfl rfl ?_) | refine D6 ?_ | refine sO ?_ | refine iY ?_ | (refine bM ?_;first | refine dD hD ?_ | refine dD (d2 n hn.1 hn.2) ?_) | refine SV ?_) | refine GA ?_ | refine GG ?_ | refine qG cN ?_ | refine qF cN ?_ | refine nP cN ?_ | refine pX cN ?_ | (refine cJ (fun hb=>?_) (fun hb=>?_) <;> try rw [hb]) | ((with_reducible refine kf ?_);refine aP 0 Tryz.results66 rfl rfl rfl ?_) | refine GR ?_ | ((with_reducible refine kr ?_);refine aG rfl ?_) | refine GO ?_ ?_ | exact GB | fail)
 all_goals first | rfl | (simp_all;done) | skip
def hI (v:Va):ByteArray:=if v.k=0 then aB5 else if v.k=1 then a0 v.n else if v.k=2 then e0 (decide (v.n=1)) else if v.k=3 then HE v.s else (if v.k=4 then l2 else if v.k=5 then m0 else l3)++hC++a0 v.n
abbrev c6 (v:Va):Bool:=cQ v.k v.n v.s
theorem aBW {k n:Int} {s:ByteArray} (h:cQ k n s=true):k=0∨k=1∨k=2∨k=3∨k=4∨k=5∨k=6:=by
 unfold cQ at h
 split at h
 ·omega
 ·split at h
  ·omega
  ·split at h
   ·omega
   ·split at h
    ·omega
    ·simp only [c5,dT] at h;omega
theorem aCA (v:Va) (hv:c6 v=true):bY Tryz.prog 66 [v.dv] (.tup [sv (hI v),iv 0]):=by
 obtain ⟨k,n,s⟩:=v
 rcases aBW hv with h | h | h | h | h | h | h <;> (simp only at h;subst h)
 ·exact aCY n s hv
 ·exact aCW n s hv
 ·exact aCV n s hv
 ·exact aCX n s hv
 ·exact aCx n s hv
 ·exact aCy n s hv
 ·exact aCz n s hv
theorem i1:isB Tryz.prog 130=true:=by kernel_rfl
theorem j1:(Tryz.prog.underlying 130).isSome=true:=by kernel_rfl
theorem f0 (x:Int) (h0:0≤x) (h1:x < 18446744073709551616):IntKind.u64.wrap x=x:=by
 simp only [IntKind.wrap,IntKind.bits,IntKind.signed];simp;omega
theorem aCD (x:Int) (h0:0≤x) (h1:x < 256):IntKind.u8.wrap x=x:=by
 simp only [IntKind.wrap,IntKind.bits,IntKind.signed];simp;omega
theorem aCC (n:Int) (h0:-9223372036854775808≤n) (h1:n < 0):IntKind.u64.wrap (0 - IntKind.u64.wrap n)=-n:=by
 simp only [IntKind.wrap,IntKind.bits,IntKind.signed];simp;omega
theorem r2 (u:Nat):((u:Int)).tdiv 10=((u / 10:Nat):Int):=by rw [Int.tdiv_eq_ediv_of_nonneg aI];omega
theorem aCZ (u:Nat):((u:Int)).tmod 10=((u % 10:Nat):Int):=by rw [Int.tmod_eq_emod_of_nonneg aI];omega
theorem aCh (u:Nat):[[(.sc (.int .u8 (IntKind.u8.wrap (IntKind.u64.wrap (48 + (u:Int).tmod 10)))):aR)]].mapM byteD=some [UInt8.ofNat (48 + u % 10)]:=by
 rw [aCZ,f0 _ aI aI,aCD _ aI aI]
 have e:(48 + ((u % 10:Nat):Int)).toNat=48 + u % 10:=by omega
 have hb:byteD [.sc (.int .u8 (48 + ((u % 10:Nat):Int)))]=some (UInt8.ofNat (48 + u % 10)):=by
  simp only [byteD,e]
  rw [if_pos]
  rw [UInt8.toNat_ofNat',Nat.mod_eq_of_lt aI]
  omega
 simp only [List.mapM_cons,List.mapM_nil,hb]
 rfl
theorem n2:Tryz.prog.underlying 128=some (.int .u64):=by kernel_rfl
theorem aCE:Tryz.prog.underlying 5=some (.int .u8):=by kernel_rfl
theorem aCm:(Tryz.prog.underlying 3).isSome=true:=by kernel_rfl
theorem r1:(Tryz.prog.underlying 128).isSome=true:=by rw [n2];rfl
def DIq (U u:Nat) (s:ByteArray):Prop:=(u < 18446744073709551616∧s.size≤40∧U < 18446744073709551616)∧(if u=0 then [] else Lib.decDigits u)++s.data.toList=Lib.decDigits U
theorem s0 (U:Nat) (h:U < 18446744073709551616):DIq U (U / 10) ⟨[UInt8.ofNat (48 + U % 10)].toArray⟩:=⟨⟨by omega,by show 1≤40;omega,h⟩,(s5 U).symm⟩
theorem aBF:∀ (k u:Nat),u < 10 ^ (k + 1)→Lib.nDigits u≤k + 1
 | 0,u,h=>by rw [Lib.nDigits_small aI];omega
 | k + 1,u,h=>by
  by_cases hk:u < 10 ^ (k + 1)
  ·have:=aBF k u hk;omega
  ·rw [Lib.nDigits_unique (k + 1) u aI h];omega
theorem aCg (u:Nat) (h:u < 18446744073709551616):(Lib.decDigits u).length≤20:=by
 rw [Lib.decDigits_length]
 exact aBF 19 u aI
theorem d3 (s:ByteArray):s.data.toList.length=s.size:=by rw [Array.length_toList];rfl
theorem aBE {U u:Nat} {s:ByteArray} (h:DIq U u s) (h0:0 < u):DIq U (u / 10) (⟨[UInt8.ofNat (48 + u % 10)].toArray⟩++s):=by
 obtain ⟨⟨h1,h2,h4⟩,h3⟩:=h
 rw [if_neg aI,s5] at h3
 have e:(⟨[UInt8.ofNat (48 + u % 10)].toArray⟩++s:ByteArray).data.toList=[UInt8.ofNat (48 + u % 10)]++s.data.toList:=by rw [ByteArray.data_append,Array.toList_append]
 have h5:(if u / 10=0 then [] else Lib.decDigits (u / 10))++(⟨[UInt8.ofNat (48 + u % 10)].toArray⟩++s:ByteArray).data.toList=Lib.decDigits U:=by rw [e,← h3,List.append_assoc]
 refine ⟨⟨by omega,?_,h4⟩,h5⟩
 have h6:=congrArg List.length h5
 rw [List.length_append,d3] at h6
 have:=aCg U h4
 omega
theorem aBO {U:Nat} {s:ByteArray} (h:DIq U 0 s):s=⟨(Lib.decDigits U).toArray⟩:=by
 have:=h.2
 apply ByteArray.ext
 rw [← Array.toList_inj]
 simpa using this
theorem aBX {n:Int} {U:Nat} (hn:0≤n) (hU:n=(U:Int)):(⟨(Lib.decDigits U).toArray⟩:ByteArray)=a0 n:=by
 unfold a0 Lib.itoa
 rw [if_neg aI,hU,Int.toNat_natCast]
theorem aBU {n:Int} {U:Nat} (hn:n < 0) (hU:-n=(U:Int)):(⟨#[45]⟩++⟨(Lib.decDigits U).toArray⟩:ByteArray)=a0 n:=by
 unfold a0 Lib.itoa
 rw [if_pos hn,show n.natAbs=U by omega]
 apply ByteArray.ext
 rw [← Array.toList_inj,ByteArray.data_append,Array.toList_append]
 rfl
theorem Z9 (x:Int) (h0:-9223372036854775808≤x) (h1:x≤9223372036854775807) (hn:0≤x):bY Tryz.prog 70 [iv x] (sv (a0 x)):=by
 have hb0:decide (x < 0)=false:=by simp;omega
 obtain ⟨U,hU⟩:∃ U:Nat,x=(U:Int):=⟨(x).toNat,by omega⟩
 have hUl:U < 18446744073709551616:=by omega
 have hw:IntKind.u64.wrap x=(U:Int):=by rw [f0 x hn aI,hU]
 have hdg:=aCh U
 rw [← hw] at hdg
 refine of_body Tryz.func70 rfl rfl (nB rfl) ?_
 rw [Tryz.ntmps70]
 repeat' (first | ((with_reducible refine kw ?_);first | refine W0 ?_ | (refine EK ?_;refine cK (VB rfl rfl (by first | (show 1 + _≤_;omega))) rfl rfl ?_) | refine W6 ?_ | refine WK ?_ | refine bJ ?_ | (refine aBi ?_;first | refine cK (aA2 aCm n2 rfl) rfl rfl ?_ | refine cK (aA2 r1 aCE rfl) rfl rfl ?_ | refine cK (v_convD j1 (str rfl) rfl i1 hdg) rfl rfl ?_) | refine W30 ?_ | refine KS ?_ | refine W48 ?_) | refine GA ?_ | refine GG ?_ | (refine cJ (fun hb=>?_) (fun hb=>?_) <;> try rw [hb]) | ((with_reducible refine kf ?_);refine aP 0 Tryz.results70 rfl rfl rfl ?_) | refine GR ?_ | ((with_reducible refine kr ?_);refine aG rfl ?_) | refine GO ?_ ?_ | exact GB | fail)
 refine cF [0,3,4] rfl ?_
 refine i2 (n:=_) (fun n e σ=>∃ (u:Nat) (m:Int) (s:ByteArray),n=u∧(m=u∧DIq U u s)∧e=[(0,iv x),(3,.d (.sc (.int .u64 m))),(4,sv s)]∧σ=_) ⟨U / 10,_,_,rfl,⟨?_,?_⟩,rfl,rfl⟩ ?_
 ·rw [hw,r2,f0 _ aI aI]
 ·exact s0 U hUl
 rintro n e σ ⟨u,m,s,rfl,⟨rfl,hd⟩,rfl,rfl⟩
 have hd1:=hd.1.1
 have hd2:=hd.1.2.1
 repeat' (first | ((with_reducible refine kw ?_);first | refine W0 ?_ | (refine EK ?_;refine cK (VB rfl rfl (by first | (show 1 + _≤_;omega))) rfl rfl ?_) | refine W6 ?_ | refine WK ?_ | refine bJ ?_ | (refine aBi ?_;first | refine cK (aA2 aCm n2 rfl) rfl rfl ?_ | refine cK (aA2 r1 aCE rfl) rfl rfl ?_ | refine cK (v_convD j1 (str rfl) rfl i1 (aCh n)) rfl rfl ?_) | refine W30 ?_ | refine KS ?_ | refine W48 ?_) | refine GA ?_ | refine GG ?_ | (refine cJ (fun hb=>?_) (fun hb=>?_) <;> try rw [hb]) | ((with_reducible refine kf ?_);refine aP 0 Tryz.results70 rfl rfl rfl ?_) | refine GR ?_ | ((with_reducible refine kr ?_);refine aG rfl ?_) | refine GO ?_ ?_ | exact GB | fail)
 all_goals first
  | (have hu:0 < n:=by have:=oT ‹decide ((n:Int) > 0)=true›;omega);refine ⟨_,_,?_,aW.pick_get _ [0,3,4],n / 10,_,_,rfl,⟨by rw [r2,f0 _ aI aI],aBE hd hu⟩,rfl,rfl⟩;omega
  | (have hu:n=0:=(by have:=oF ‹decide ((n:Int) > 0)=false›;omega);subst hu;have e:=aBO hd;subst e;refine dG ?_;exact congrArg sv (aBX hn hU))
  | skip
theorem I0 (x:Int) (h0:-9223372036854775808≤x) (h1:x≤9223372036854775807) (hn:x < 0):bY Tryz.prog 70 [iv x] (sv (a0 x)):=by
 have hb0:decide (x < 0)=true:=by simp;omega
 obtain ⟨U,hU⟩:∃ U:Nat,-x=(U:Int):=⟨(-x).toNat,by omega⟩
 have hUl:U < 18446744073709551616:=by omega
 have hw:IntKind.u64.wrap (0 - IntKind.u64.wrap x)=(U:Int):=by rw [aCC x h0 hn,hU]
 have hdg:=aCh U
 rw [← hw] at hdg
 refine of_body Tryz.func70 rfl rfl (nB rfl) ?_
 rw [Tryz.ntmps70]
 repeat' (first | ((with_reducible refine kw ?_);first | refine W0 ?_ | (refine EK ?_;refine cK (VB rfl rfl (by first | (show 1 + _≤_;omega))) rfl rfl ?_) | refine W6 ?_ | refine WK ?_ | refine bJ ?_ | (refine aBi ?_;first | refine cK (aA2 aCm n2 rfl) rfl rfl ?_ | refine cK (aA2 r1 aCE rfl) rfl rfl ?_ | refine cK (v_convD j1 (str rfl) rfl i1 hdg) rfl rfl ?_) | refine W30 ?_ | refine KS ?_ | refine W48 ?_) | refine GA ?_ | refine GG ?_ | (refine cJ (fun hb=>?_) (fun hb=>?_) <;> try rw [hb]) | ((with_reducible refine kf ?_);refine aP 0 Tryz.results70 rfl rfl rfl ?_) | refine GR ?_ | ((with_reducible refine kr ?_);refine aG rfl ?_) | refine GO ?_ ?_ | exact GB | fail)
 refine cF [0,3,4] rfl ?_
 refine i2 (n:=_) (fun n e σ=>∃ (u:Nat) (m:Int) (s:ByteArray),n=u∧(m=u∧DIq U u s)∧e=[(0,iv x),(3,.d (.sc (.int .u64 m))),(4,sv s)]∧σ=_) ⟨U / 10,_,_,rfl,⟨?_,?_⟩,rfl,rfl⟩ ?_
 ·rw [hw,r2,f0 _ aI aI]
 ·exact s0 U hUl
 rintro n e σ ⟨u,m,s,rfl,⟨rfl,hd⟩,rfl,rfl⟩
 have hd1:=hd.1.1
 have hd2:=hd.1.2.1
 repeat' (first | ((with_reducible refine kw ?_);first | refine W0 ?_ | (refine EK ?_;refine cK (VB rfl rfl (by first | (show 1 + _≤_;omega))) rfl rfl ?_) | refine W6 ?_ | refine WK ?_ | refine bJ ?_ | (refine aBi ?_;first | refine cK (aA2 aCm n2 rfl) rfl rfl ?_ | refine cK (aA2 r1 aCE rfl) rfl rfl ?_ | refine cK (v_convD j1 (str rfl) rfl i1 (aCh n)) rfl rfl ?_) | refine W30 ?_ | refine KS ?_ | refine W48 ?_) | refine GA ?_ | refine GG ?_ | (refine cJ (fun hb=>?_) (fun hb=>?_) <;> try rw [hb]) | ((with_reducible refine kf ?_);refine aP 0 Tryz.results70 rfl rfl rfl ?_) | refine GR ?_ | ((with_reducible refine kr ?_);refine aG rfl ?_) | refine GO ?_ ?_ | exact GB | fail)
 all_goals first
  | (have hu:0 < n:=by have:=oT ‹decide ((n:Int) > 0)=true›;omega);refine ⟨_,_,?_,aW.pick_get _ [0,3,4],n / 10,_,_,rfl,⟨by rw [r2,f0 _ aI aI],aBE hd hu⟩,rfl,rfl⟩;omega
  | (have hu:n=0:=(by have:=oF ‹decide ((n:Int) > 0)=false›;omega);subst hu;have e:=aBO hd;subst e;refine dG ?_;exact congrArg sv (aBU hn hU))
  | skip
theorem eF (n:Int):bY Tryz.prog 70 [iv n] (sv (a0 n)):=by
 refine aB.assume rfl fun hok _=>?_
 have hn:-9223372036854775808≤n∧n≤9223372036854775807:=a6 (hok (iv n) eS)
 by_cases h:0≤n
 ·exact Z9 n hn.1 hn.2 h
 ·exact I0 n hn.1 hn.2 aI
theorem e8 {n b:Nat} (h:n≤100000) (hb:b≤1000):vB n b=true:=by
 unfold vB gY
 have h1:(n + n / 4 + 512) * b≤125512 * 1000:=Nat.mul_le_mul aI hb
 simp only [c5,dT];omega
def bRq (l:List UInt8):List (List aR):=l.map fun b=>[.sc (.int .u8 (b.toNat:Int))]
theorem q1 (l:List UInt8):(aO (bRq l)).length=l.length:=by simp [aO,bRq]
theorem j4 (l:List UInt8) (b:UInt8):aO (bRq l)++[[.d (.sc (.int .u8 (b.toNat:Int)))]]=aO (bRq (l++[b])):=by simp [aO,bRq]
theorem aBQ (b:UInt8):byteA [.d (.sc (.int .u8 (b.toNat:Int)))]=some b:=by
 unfold byteA
 simp
theorem s4:∀ l:List UInt8,(aO (bRq l)).mapM byteA=some l
 | []=>rfl
 | b::l=>by
  have h:=s4 l
  simp only [aO,bRq,List.map_cons,List.mapM_cons] at h ⊢
  show (byteA [.d (.sc (.int .u8 (b.toNat:Int)))]).bind _=_
  rw [aBQ]
  simp only [List.map_map] at h
  simp only [Option.bind_eq_bind,Option.bind_some]
  simp only [List.map_map,h,Option.bind_some]
  rfl
theorem aBP (l:List UInt8):(aO (bRq l)++[[DV.d (.sc (.int .u8 34))]]).mapM byteA=some (l++[34]):=by
 have e:=j4 l 34
 rw [show (((34:UInt8).toNat:Int))=34 from rfl] at e
 rw [e]
 exact s4 _
def btc (t:ByteArray) (i:Nat):UInt8:=t.data.getD i 0
theorem aDj (t:ByteArray) (i:Nat):bt t i=((btc t i).toNat:Int):=rfl
def f3 (t:ByteArray) (i:Nat):List UInt8:=34::(t.data.toList.take i).flatMap k6
theorem hY (t:ByteArray) (i:Nat) (h:i < t.size):f3 t (i + 1)=f3 t i++k6 (btc t i):=by
 have hl:i < t.data.toList.length:=by rw [d3];exact h
 have e:t.data.toList[i]? = some (btc t i):=by
  rw [List.getElem?_eq_getElem hl]
  unfold btc
  have h':i < t.data.size:=by simpa using hl
  simp [Array.getD,h']
  exact fun h2=>absurd h aI
 unfold f3
 rw [List.take_add_one,e]
 simp [List.flatMap_append]
theorem k7 (t:ByteArray):∀ i,(f3 t i).length≤1 + 2 * i
 | 0=>by simp [f3]
 | i + 1=>by
  have h:=k7 t i
  by_cases hi:i < t.size
  ·rw [hY t i hi,List.length_append]
   have:(k6 (btc t i)).length≤2:=by unfold k6;split <;> simp
   omega
  ·have hl:t.data.toList.length≤i:=by rw [d3];omega
   unfold f3 at h ⊢
   rw [List.take_of_length_le aI]
   rw [List.take_of_length_le hl] at h
   omega
theorem t0 (t:ByteArray):f3 t t.size++[34]=t1 t.data.toList:=by
 unfold f3 t1
 rw [← d3,List.take_length]
 rfl
theorem aCk (c:UInt8) (h:(c.toNat:Int)=34∨(c.toNat:Int)=92):k6 c=[92,c]:=by
 unfold k6
 rw [if_pos]
 rcases h with h | h
 ·left;apply UInt8.toNat_inj.1;show c.toNat=34;omega
 ·right;apply UInt8.toNat_inj.1;show c.toNat=92;omega
theorem aCj (c:UInt8) (h1:¬ (c.toNat:Int)=34) (h2:¬ (c.toNat:Int)=92):k6 c=[c]:=by
 unfold k6
 rw [if_neg]
 rintro (rfl | rfl)
 ·exact h1 rfl
 ·exact h2 rfl
theorem t2 (t:ByteArray) (i:Nat) (hi:i < t.size) (h:bt t i=34∨bt t i=92):aO (bRq (f3 t i))++[[DV.d (.sc (.int .u8 92))]]++[[DV.d (.sc (.int .u8 (bt t i)))]]=aO (bRq (f3 t (i + 1))):=by
 rw [hY t i hi,aCk (btc t i) h,show f3 t i++[92,btc t i]=f3 t i++[92]++[btc t i] by simp,← j4,← j4]
 rfl
theorem aB0 (t:ByteArray) (i:Nat) (hi:i < t.size) (h1:¬ bt t i=34) (h2:¬ bt t i=92):aO (bRq (f3 t i))++[[DV.d (.sc (.int .u8 (bt t i)))]]=aO (bRq (f3 t (i + 1))):=by
 rw [hY t i hi,aCj (btc t i) h1 h2,← j4]
 rfl
theorem q0 (t:ByteArray) (h60:t.size≤60):bY Tryz.prog 112 [sv t] (sv (HE t)):=by
 refine of_body Tryz.func112 rfl rfl (nB rfl) ?_
 rw [Tryz.ntmps112]
 repeat' (first | ((with_reducible refine kw ?_);first | refine Wg ?_ | refine W0 ?_ | refine W6 ?_ | refine bJ ?_ | refine eT ?_ | refine K2 ?_ | refine P9 ?_ | (refine aBi ?_;refine cK (v_convB j1 (str rfl) rfl rfl i1 (sz rfl) (aBP _)) rfl rfl ?_) | refine W30 ?_ | refine W48 ?_ | refine KS ?_ | refine W48 ?_ | (refine vQ ?_;first | refine cK (fY (el rfl) (sl rfl) rfl rfl rfl (ap rfl) (mM rfl rfl) (iI eS) (e8 (by simp only [q1,List.length_append,List.length_map,List.length_cons,List.length_nil];omega) cN)) rfl rfl ?_ | refine cK (fY (el rfl) (sl rfl) rfl rfl rfl (ap rfl) (mM rfl rfl) (HP rfl (sz rfl)) (e8 (by simp only [q1,List.length_append,List.length_map,List.length_reverse,List.length_cons,List.length_nil];omega) cN)) rfl rfl ?_) | refine W49 ?_) | refine GX ?_ | (refine bW (fun hb=>?_) (fun hb=>?_) <;> rw [hb]) | refine GA ?_ | refine GG ?_ | (refine cJ (fun hb=>?_) (fun hb=>?_) <;> try rw [hb]) | ((with_reducible refine kf ?_);refine aP 0 Tryz.results112 rfl rfl rfl ?_) | refine GR ?_ | ((with_reducible refine kr ?_);refine aG rfl ?_) | refine GO ?_ ?_ | exact GB | fail)
 refine dB (kK 5 ?_)
 refine dB (qR 3 (m:=1) (s:=bRq (f3 t 0)) rfl rfl rfl rfl fun u=>?_)
 refine cF [0,3,4] rfl ?_
 refine jY 2 (n:=_) (fun n e σ=>∃ (i:Nat) (m:Int) (u:Value),n=t.size - i∧(m=i∧i≤t.size)∧e=[(0,sv t),(3,.d (.sc u)),(4,iv m)]∧σ=[none,some (bS Tryz.prog 5 [(u,bRq (f3 t i))])]) rfl ⟨0,0,u,rfl,⟨rfl,Nat.zero_le _⟩,rfl,rfl⟩ ?_
 rintro n e σ ⟨i,m,u,rfl,⟨rfl,hi⟩,rfl,rfl⟩
 have hel:=k7 t i
 refine dB (wK 3 (m:=1) rfl (List.Perm.refl _) rfl ?_)
 repeat' (first | ((with_reducible refine kw ?_);first | refine Wg ?_ | refine W0 ?_ | refine W6 ?_ | refine bJ ?_ | refine eT ?_ | refine K2 ?_ | refine P9 ?_ | (refine aBi ?_;refine cK (v_convB j1 (str rfl) rfl rfl i1 (sz rfl) (aBP _)) rfl rfl ?_) | refine W30 ?_ | refine W48 ?_ | refine KS ?_ | refine W48 ?_ | (refine vQ ?_;first | refine cK (fY (el rfl) (sl rfl) rfl rfl rfl (ap rfl) (mM rfl rfl) (iI eS) (e8 (by simp only [q1,List.length_append,List.length_map,List.length_cons,List.length_nil];omega) cN)) rfl rfl ?_ | refine cK (fY (el rfl) (sl rfl) rfl rfl rfl (ap rfl) (mM rfl rfl) (HP rfl (sz rfl)) (e8 (by simp only [q1,List.length_append,List.length_map,List.length_reverse,List.length_cons,List.length_nil];omega) cN)) rfl rfl ?_) | refine W49 ?_) | refine GX ?_ | (refine bW (fun hb=>?_) (fun hb=>?_) <;> rw [hb]) | refine GA ?_ | refine GG ?_ | (refine cJ (fun hb=>?_) (fun hb=>?_) <;> try rw [hb]) | ((with_reducible refine kf ?_);refine aP 0 Tryz.results112 rfl rfl rfl ?_) | refine GR ?_ | ((with_reducible refine kr ?_);refine aG rfl ?_) | refine GO ?_ ?_ | exact GB | fail)
 all_goals first
  | (have h1:=oT ‹decide (bt t (i:Int).toNat=34)=true›;have hlt:=oT ‹decide ((i:Int) < (t.size:Int))=true›;rw [Int.toNat_natCast] at h1;refine gE (qR 3 (m:=1) (s:=bRq (f3 t (i + 1))) rfl rfl (t2 t i aI (.inl h1)) rfl fun u2=>?_);refine gE (jM [0,3,4] rfl ?_);refine gU 2 rfl rfl rfl ?_;refine gT ⟨_,?_,i + 1,_,u2,rfl,⟨aL aI aI,by omega⟩,rfl,rfl⟩;omega)
  | (have h1:=oT ‹decide (bt t (i:Int).toNat=92)=true›;have hlt:=oT ‹decide ((i:Int) < (t.size:Int))=true›;rw [Int.toNat_natCast] at h1;refine gE (qR 3 (m:=1) (s:=bRq (f3 t (i + 1))) rfl rfl (t2 t i aI (.inr h1)) rfl fun u2=>?_);refine gE (jM [0,3,4] rfl ?_);refine gU 2 rfl rfl rfl ?_;refine gT ⟨_,?_,i + 1,_,u2,rfl,⟨aL aI aI,by omega⟩,rfl,rfl⟩;omega)
  | (have h1:=oF ‹decide (bt t (i:Int).toNat=34)=false›;have h2:=oF ‹decide (bt t (i:Int).toNat=92)=false›;have hlt:=oT ‹decide ((i:Int) < (t.size:Int))=true›;rw [Int.toNat_natCast] at h1 h2;refine gE (qR 3 (m:=1) (s:=bRq (f3 t (i + 1))) rfl rfl (aB0 t i aI h1 h2) rfl fun u2=>?_);refine gE (jM [0,3,4] rfl ?_);refine gU 2 rfl rfl rfl ?_;refine gT ⟨_,?_,i + 1,_,u2,rfl,⟨aL aI aI,by omega⟩,rfl,rfl⟩;omega)
  | (have hge:=oF ‹decide ((i:Int) < (t.size:Int))=false›;obtain rfl:i=t.size:=aI;refine dG ?_;rw [t0,← p4];rfl)
  | skip
theorem aBC {P:Program} {e:aW} {σ:aA} {n:Nat} {t el:TypeId} {len sz:Nat} {parts:Array (Nat × Operand)} {zs cs:List DV} {vs:List (Nat × DV)} (hs:qI P t=false) (ha:wW P t=some (len,el,sz)) (hz:iT P t=some (.agg zs)) (hp:parts.toList.mapM (fun p=>(e.ev p.2).bind fun v=>if pT v then some (p.1,v) else none)=some vs) (hf:rZ (fun i=>some (i * sz,sz)) zs vs=some cs) :
  Ev P (.build t parts) e σ n (.agg cs) σ:=eY rfl (by simp only [aK,hs,c3,if_false,ha,hz,hp,hf,Option.map])
theorem aBV:qI Tryz.prog 176=false:=by kernel_rfl
theorem o1:wW Tryz.prog 176=some (3,9,1):=by kernel_rfl
theorem aB9:iT Tryz.prog 176=some (.agg [sv ⟨#[]⟩,sv ⟨#[]⟩,sv ⟨#[]⟩]):=by kernel_rfl
abbrev aCR:ByteArray:=⟨#[99,104,97,110,35]⟩
abbrev aCU:ByteArray:=⟨#[116,97,115,107,35]⟩
abbrev aCT:ByteArray:=⟨#[108,111,99,107,35]⟩
theorem aC5:l2++hC=aCR:=ByteArray.ext (by rw [ByteArray.data_append];rfl)
theorem aDb:m0++hC=aCU:=ByteArray.ext (by rw [ByteArray.data_append];rfl)
theorem aC9:l3++hC=aCT:=ByteArray.ext (by rw [ByteArray.data_append];rfl)
theorem aCv (n:Int) (s:ByteArray) (hv:cQ 0 n s=true):bY Tryz.prog 71 [.agg [iv 0,iv n,sv s]] (sv (aB5)):=by
 refine of_body Tryz.func71 rfl rfl (nB rfl) ?_
 rw [Tryz.ntmps71]
 repeat' (first | ((with_reducible refine kw ?_);first | refine W1 ?_ | refine W2 ?_ | refine W6 ?_ | refine WK ?_ | refine bJ ?_ | refine cW ?_) | refine GN ?_ | ((with_reducible refine kd ?_);first | refine D1 ?_ | refine D2 ?_ | refine D6 ?_ | refine sO ?_ | refine iY ?_ | refine D29 ?_ | refine sU ?_) | refine GA ?_ | refine GG ?_ | refine qG cN ?_ | refine qF cN ?_ | refine nP cN ?_ | refine pX cN ?_ | (refine cJ (fun hb=>?_) (fun hb=>?_) <;> try rw [hb]) | ((with_reducible refine kf ?_);refine aP 0 Tryz.results71 rfl rfl rfl ?_) | refine GR ?_ | ((with_reducible refine kr ?_);refine aG rfl ?_) | refine GO ?_ ?_ | exact GB | fail)
 all_goals first | rfl | (simp_all [e0];done) | skip
theorem aCt (n:Int) (s:ByteArray) (hv:cQ 1 n s=true):bY Tryz.prog 71 [.agg [iv 1,iv n,sv s]] (sv (a0 n)):=by
 refine of_body Tryz.func71 rfl rfl (nB rfl) ?_
 rw [Tryz.ntmps71]
 repeat' (first | ((with_reducible refine kw ?_);first | refine W1 ?_ | refine W2 ?_ | refine W6 ?_ | refine WK ?_ | refine bJ ?_ | (refine aJ ?_;refine tD (eF n) ?_) | refine cW ?_) | refine GN ?_ | ((with_reducible refine kd ?_);first | refine D1 ?_ | refine D2 ?_ | refine D6 ?_ | refine sO ?_ | refine iY ?_ | (refine bM ?_;refine dD (eF n) ?_) | refine D29 ?_ | refine sU ?_) | refine GA ?_ | refine GG ?_ | refine qG cN ?_ | refine qF cN ?_ | refine nP cN ?_ | refine pX cN ?_ | (refine cJ (fun hb=>?_) (fun hb=>?_) <;> try rw [hb]) | ((with_reducible refine kf ?_);refine aP 0 Tryz.results71 rfl rfl rfl ?_) | refine GR ?_ | ((with_reducible refine kr ?_);refine aG rfl ?_) | refine GO ?_ ?_ | exact GB | fail)
 all_goals first | rfl | (simp_all [e0];done) | skip
theorem aCs (n:Int) (s:ByteArray) (hv:cQ 2 n s=true):bY Tryz.prog 71 [.agg [iv 2,iv n,sv s]] (sv (e0 (decide (n=1)))):=by
 refine of_body Tryz.func71 rfl rfl (nB rfl) ?_
 rw [Tryz.ntmps71]
 repeat' (first | ((with_reducible refine kw ?_);first | refine W1 ?_ | refine W2 ?_ | refine W6 ?_ | refine WK ?_ | refine bJ ?_ | refine cW ?_) | refine GN ?_ | ((with_reducible refine kd ?_);first | refine D1 ?_ | refine D2 ?_ | refine D6 ?_ | refine sO ?_ | refine iY ?_ | refine D29 ?_ | refine sU ?_) | refine GA ?_ | refine GG ?_ | refine qG cN ?_ | refine qF cN ?_ | refine nP cN ?_ | refine pX cN ?_ | (refine cJ (fun hb=>?_) (fun hb=>?_) <;> try rw [hb]) | ((with_reducible refine kf ?_);refine aP 0 Tryz.results71 rfl rfl rfl ?_) | refine GR ?_ | ((with_reducible refine kr ?_);refine aG rfl ?_) | refine GO ?_ ?_ | exact GB | fail)
 all_goals first | rfl | (simp_all [e0];done) | skip
theorem aCu (n:Int) (s:ByteArray) (hv:cQ 3 n s=true):bY Tryz.prog 71 [.agg [iv 3,iv n,sv s]] (sv (HE s)):=by
 have hx:s.size≤60:=by unfold cQ at hv;simp [bP] at hv;exact hv.2.2
 refine of_body Tryz.func71 rfl rfl (nB rfl) ?_
 rw [Tryz.ntmps71]
 repeat' (first | ((with_reducible refine kw ?_);first | refine W1 ?_ | refine W2 ?_ | refine W6 ?_ | refine WK ?_ | refine bJ ?_ | (refine aJ ?_;refine tD (q0 s hx) ?_) | refine cW ?_) | refine GN ?_ | ((with_reducible refine kd ?_);first | refine D1 ?_ | refine D2 ?_ | refine D6 ?_ | refine sO ?_ | refine iY ?_ | (refine bM ?_;refine dD (q0 s hx) ?_) | refine D29 ?_ | refine sU ?_) | refine GA ?_ | refine GG ?_ | refine qG cN ?_ | refine qF cN ?_ | refine nP cN ?_ | refine pX cN ?_ | (refine cJ (fun hb=>?_) (fun hb=>?_) <;> try rw [hb]) | ((with_reducible refine kf ?_);refine aP 0 Tryz.results71 rfl rfl rfl ?_) | refine GR ?_ | ((with_reducible refine kr ?_);refine aG rfl ?_) | refine GO ?_ ?_ | exact GB | fail)
 all_goals first | rfl | (simp_all [e0];done) | skip
theorem aB1 (n:Int) (s:ByteArray) (hv:cQ 4 n s=true):bY Tryz.prog 71 [.agg [iv 4,iv n,sv s]] (sv (l2++hC++a0 n)):=by
 refine aB.assume rfl fun hok _=>?_
 have hn:-9223372036854775808≤n∧n≤9223372036854775807:=a6 (hok (.agg [iv 4,iv n,sv s]) eS (.sc (.int .i64 n)) eS)
 have hl:=a1 n hn.1 hn.2
 refine of_body Tryz.func71 rfl rfl (nB rfl) ?_
 rw [Tryz.ntmps71]
 repeat' (first | ((with_reducible refine kw ?_);first | refine W1 ?_ | refine W2 ?_ | (refine EK ?_;refine cK (VB rfl rfl (by show 5 + _≤_;omega)) rfl rfl ?_) | refine W6 ?_ | refine WK ?_ | refine bJ ?_ | refine cW ?_) | refine GN ?_ | ((with_reducible refine kd ?_);first | refine D1 ?_ | refine D2 ?_ | (refine TN ?_;refine IX (VB rfl rfl (by show 5 + _≤_;omega)) rfl rfl rfl ?_) | refine D6 ?_ | refine sO ?_ | refine iY ?_ | (refine bM ?_;refine dD (eF n) ?_) | (refine aBm ?_;refine IX (k0 o1 rfl rfl cN cN rfl) rfl rfl rfl ?_) | refine D29 ?_ | (refine q6 ?_;refine IX (aBC aBV o1 aB9 rfl rfl) rfl rfl rfl ?_) | refine sU ?_) | refine GA ?_ | refine GG ?_ | refine qG cN ?_ | refine qF cN ?_ | refine nP cN ?_ | refine pX cN ?_ | (refine cJ (fun hb=>?_) (fun hb=>?_) <;> try rw [hb]) | ((with_reducible refine kf ?_);refine aP 0 Tryz.results71 rfl rfl rfl ?_) | refine GR ?_ | ((with_reducible refine kr ?_);refine aG rfl ?_) | refine GO ?_ ?_ | exact GB | fail)
 all_goals first | rfl | (simp_all [e0];done) | (rw [aC5];rfl) | skip
theorem aB2 (n:Int) (s:ByteArray) (hv:cQ 5 n s=true):bY Tryz.prog 71 [.agg [iv 5,iv n,sv s]] (sv (m0++hC++a0 n)):=by
 refine aB.assume rfl fun hok _=>?_
 have hn:-9223372036854775808≤n∧n≤9223372036854775807:=a6 (hok (.agg [iv 5,iv n,sv s]) eS (.sc (.int .i64 n)) eS)
 have hl:=a1 n hn.1 hn.2
 refine of_body Tryz.func71 rfl rfl (nB rfl) ?_
 rw [Tryz.ntmps71]
 repeat' (first | ((with_reducible refine kw ?_);first | refine W1 ?_ | refine W2 ?_ | (refine EK ?_;refine cK (VB rfl rfl (by show 5 + _≤_;omega)) rfl rfl ?_) | refine W6 ?_ | refine WK ?_ | refine bJ ?_ | refine cW ?_) | refine GN ?_ | ((with_reducible refine kd ?_);first | refine D1 ?_ | refine D2 ?_ | (refine TN ?_;refine IX (VB rfl rfl (by show 5 + _≤_;omega)) rfl rfl rfl ?_) | refine D6 ?_ | refine sO ?_ | refine iY ?_ | (refine bM ?_;refine dD (eF n) ?_) | (refine aBm ?_;refine IX (k0 o1 rfl rfl cN cN rfl) rfl rfl rfl ?_) | refine D29 ?_ | (refine q6 ?_;refine IX (aBC aBV o1 aB9 rfl rfl) rfl rfl rfl ?_) | refine sU ?_) | refine GA ?_ | refine GG ?_ | refine qG cN ?_ | refine qF cN ?_ | refine nP cN ?_ | refine pX cN ?_ | (refine cJ (fun hb=>?_) (fun hb=>?_) <;> try rw [hb]) | ((with_reducible refine kf ?_);refine aP 0 Tryz.results71 rfl rfl rfl ?_) | refine GR ?_ | ((with_reducible refine kr ?_);refine aG rfl ?_) | refine GO ?_ ?_ | exact GB | fail)
 all_goals first | rfl | (simp_all [e0];done) | (rw [aDb];rfl) | skip
theorem aB3 (n:Int) (s:ByteArray) (hv:cQ 6 n s=true):bY Tryz.prog 71 [.agg [iv 6,iv n,sv s]] (sv (l3++hC++a0 n)):=by
 refine aB.assume rfl fun hok _=>?_
 have hn:-9223372036854775808≤n∧n≤9223372036854775807:=a6 (hok (.agg [iv 6,iv n,sv s]) eS (.sc (.int .i64 n)) eS)
 have hl:=a1 n hn.1 hn.2
 refine of_body Tryz.func71 rfl rfl (nB rfl) ?_
 rw [Tryz.ntmps71]
 repeat' (first | ((with_reducible refine kw ?_);first | refine W1 ?_ | refine W2 ?_ | (refine EK ?_;refine cK (VB rfl rfl (by show 5 + _≤_;omega)) rfl rfl ?_) | refine W6 ?_ | refine WK ?_ | refine bJ ?_ | refine cW ?_) | refine GN ?_ | ((with_reducible refine kd ?_);first | refine D1 ?_ | refine D2 ?_ | (refine TN ?_;refine IX (VB rfl rfl (by show 5 + _≤_;omega)) rfl rfl rfl ?_) | refine D6 ?_ | refine sO ?_ | refine iY ?_ | (refine bM ?_;refine dD (eF n) ?_) | (refine aBm ?_;refine IX (k0 o1 rfl rfl cN cN rfl) rfl rfl rfl ?_) | refine D29 ?_ | (refine q6 ?_;refine IX (aBC aBV o1 aB9 rfl rfl) rfl rfl rfl ?_) | refine sU ?_) | refine GA ?_ | refine GG ?_ | refine qG cN ?_ | refine qF cN ?_ | refine nP cN ?_ | refine pX cN ?_ | (refine cJ (fun hb=>?_) (fun hb=>?_) <;> try rw [hb]) | ((with_reducible refine kf ?_);refine aP 0 Tryz.results71 rfl rfl rfl ?_) | refine GR ?_ | ((with_reducible refine kr ?_);refine aG rfl ?_) | refine GO ?_ ?_ | exact GB | fail)
 all_goals first | rfl | (simp_all [e0];done) | (rw [aC9];rfl) | skip
theorem u0 (v:Va) (hv:c6 v=true):bY Tryz.prog 71 [v.dv] (sv (hI v)):=by
 obtain ⟨k,n,s⟩:=v
 rcases aBW hv with h | h | h | h | h | h | h <;> (simp only at h;subst h)
 ·exact aCv n s hv
 ·exact aCt n s hv
 ·exact aCs n s hv
 ·exact aCu n s hv
 ·exact aB1 n s hv
 ·exact aB2 n s hv
 ·exact aB3 n s hv
theorem p2 (xs:List ByteArray) (h0:xs≠[]) (hN:xs.length≤140737488355328) (hlen:(hG xs ⟨#[32]⟩).size≤140737488355328):bY Tryz.prog 68 [.d (.lst (xs.map fun s=>[.sc (.string s)]))] (sv (hG xs ⟨#[32]⟩)):=by
 refine of_body Tryz.func68 rfl rfl (nB rfl) ?_
 rw [Tryz.ntmps68]
 repeat' (first | ((with_reducible refine kw ?_);first | refine W0 ?_ | refine bJ ?_ | (refine aJ ?_;refine tD (aCn xs ⟨#[32]⟩ h0 hN hlen) ?_)) | refine GA ?_ | refine GG ?_ | (refine cJ (fun hb=>?_) (fun hb=>?_) <;> try rw [hb]) | ((with_reducible refine kf ?_);refine aP 0 Tryz.results68 rfl rfl rfl ?_) | refine GR ?_ | ((with_reducible refine kr ?_);refine aG rfl ?_) | refine GO ?_ ?_ | exact GB | fail)
 all_goals rfl
def e6 (fs:List Fm):Bool:=fs.all fun t=>t.slots.all c6
theorem aBZ (fs:List Fm):bY Tryz.prog 37 [lv (fs.map Fm.enc)] (bv (e6 fs)):=by
 refine aB.assume rfl fun hok _=>?_
 have hokf:=hok (lv (fs.map Fm.enc)) eS
 have hlen:=dK hokf
 simp only [List.length_map] at hlen
 refine of_body Tryz.func37 rfl rfl (nB rfl) ?_
 rw [Tryz.ntmps37]
 repeat' (first | ((with_reducible refine kw ?_);first | refine W0 ?_ | refine W1 ?_ | refine W2 ?_ | refine W3 ?_ | refine W6 ?_ | refine bJ ?_ | (refine fO ?_;first | refine cK (aF (el rfl) rfl rfl aI (oT ‹decide ((i:Int) < (fs.length:Int))=true›) ⟨rfl,by decide⟩) rfl rfl ?_ | refine cK (aF (el rfl) rfl rfl aI hlt ⟨rfl,by decide⟩) rfl rfl ?_ | refine cK (aF (el rfl) rfl rfl aI (oT ‹decide ((k:Int) < ((aC fs (i:Int)).slots.length:Int))=true›) ⟨rfl,by decide⟩) rfl rfl ?_) | refine wR ?_ | refine W14 ?_ | refine W15 ?_ | refine gQ ?_ | refine gZ ?_ | refine W23 ?_ | refine W24 ?_ | refine W25 ?_) | refine GA ?_ | refine GG ?_ | (refine cJ (fun hb=>?_) (fun hb=>?_) <;> try rw [hb]) | ((with_reducible refine kf ?_);refine aP 0 Tryz.results37 rfl rfl rfl ?_) | refine GR ?_ | ((with_reducible refine kr ?_);refine aG rfl ?_) | refine GO ?_ ?_ | exact GB | fail)
 refine cF [0,3] rfl ?_
 refine i2 (n:=_) (fun n e σ=>∃ (i:Nat) (m:Int),n=fs.length - i∧(m=i∧i≤fs.length∧(fs.take i).all (fun t=>t.slots.all c6)=true)∧e=[(0,_),(3,iv m)]∧σ=_) ⟨0,0,rfl,⟨rfl,Nat.zero_le _,rfl⟩,rfl,rfl⟩ ?_
 rintro n e σ ⟨i,m,rfl,⟨rfl,hi,hall⟩,rfl,rfl⟩
 repeat' (first | ((with_reducible refine kw ?_);first | refine W0 ?_ | refine W1 ?_ | refine W2 ?_ | refine W3 ?_ | refine W6 ?_ | refine bJ ?_ | (refine fO ?_;first | refine cK (aF (el rfl) rfl rfl aI (oT ‹decide ((i:Int) < (fs.length:Int))=true›) ⟨rfl,by decide⟩) rfl rfl ?_ | refine cK (aF (el rfl) rfl rfl aI hlt ⟨rfl,by decide⟩) rfl rfl ?_ | refine cK (aF (el rfl) rfl rfl aI (oT ‹decide ((k:Int) < ((aC fs (i:Int)).slots.length:Int))=true›) ⟨rfl,by decide⟩) rfl rfl ?_) | refine wR ?_ | refine W14 ?_ | refine W15 ?_ | refine gQ ?_ | refine gZ ?_ | refine W23 ?_ | refine W24 ?_ | refine W25 ?_) | refine GA ?_ | refine GG ?_ | (refine cJ (fun hb=>?_) (fun hb=>?_) <;> try rw [hb]) | ((with_reducible refine kf ?_);refine aP 0 Tryz.results37 rfl rfl rfl ?_) | refine GR ?_ | ((with_reducible refine kr ?_);refine aG rfl ?_) | refine GO ?_ ?_ | exact GB | fail)
 all_goals first
  | (refine dG ?_;show bv true=bv (e6 fs);rw [show e6 fs=true from GM (by have:=oF ‹decide ((i:Int) < (fs.length:Int))=false›;omega) hall])
  | skip
 have hlt:=(oT ‹decide ((i:Int) < (fs.length:Int))=true›)
 have hsl:((aC fs (i:Int)).slots.length:Int)≤140737488355328:=by
  have h1:=(rG hokf).2 (Fm.enc (aC fs (i:Int))) (List.mem_map.2 ⟨_,by rw [bK aI];exact List.getElem_mem aI,rfl⟩)
  have h2:=dK (h1 (ld ((aC fs (i:Int)).slots.map Va.enc)) eS)
  simp only [List.length_map] at h2
  exact h2
 refine cF [0,3,4] rfl ?_
 refine i2 (n:=_) (fun n e σ=>∃ (k:Nat) (mk:Int),n=(aC fs (i:Int)).slots.length - k∧(mk=k∧k≤(aC fs (i:Int)).slots.length∧((aC fs (i:Int)).slots.take k).all c6=true)∧e=[(0,_),(3,_),(4,iv mk)]∧σ=_) ⟨0,0,rfl,⟨rfl,Nat.zero_le _,rfl⟩,rfl,rfl⟩ ?_
 rintro n e σ ⟨k,mk,rfl,⟨rfl,hk,hva⟩,rfl,rfl⟩
 repeat' (first | ((with_reducible refine kw ?_);first | refine W0 ?_ | refine W1 ?_ | refine W2 ?_ | refine W3 ?_ | refine W6 ?_ | refine bJ ?_ | (refine aJ ?_;refine tD (iU (aC (aC fs (i:Int)).slots (k:Int)).k (aC (aC fs (i:Int)).slots (k:Int)).n (aC (aC fs (i:Int)).slots (k:Int)).s) ?_) | (refine fO ?_;first | refine cK (aF (el rfl) rfl rfl aI (oT ‹decide ((i:Int) < (fs.length:Int))=true›) ⟨rfl,by decide⟩) rfl rfl ?_ | refine cK (aF (el rfl) rfl rfl aI hlt ⟨rfl,by decide⟩) rfl rfl ?_ | refine cK (aF (el rfl) rfl rfl aI (oT ‹decide ((k:Int) < ((aC fs (i:Int)).slots.length:Int))=true›) ⟨rfl,by decide⟩) rfl rfl ?_) | refine wR ?_ | refine W14 ?_ | refine W15 ?_ | refine gQ ?_ | refine gZ ?_ | refine W23 ?_ | refine W24 ?_ | refine W25 ?_) | refine GA ?_ | refine GG ?_ | (refine cJ (fun hb=>?_) (fun hb=>?_) <;> try rw [hb]) | ((with_reducible refine kf ?_);refine aP 0 Tryz.results37 rfl rfl rfl ?_) | refine GR ?_ | ((with_reducible refine kr ?_);refine aG rfl ?_) | refine GO ?_ ?_ | exact GB | fail)
 all_goals first
  | (have hlk:=(oT ‹decide ((k:Int) < ((aC fs (i:Int)).slots.length:Int))=true›);have hv:c6 (aC (aC fs (i:Int)).slots (k:Int))=false:=(by simpa using ‹(!cQ (aC (aC fs (i:Int)).slots (k:Int)).k (aC (aC fs (i:Int)).slots (k:Int)).n (aC (aC fs (i:Int)).slots (k:Int)).s)=true›);refine dG ?_;show bv false=bv (e6 fs);rw [show e6 fs=false from BY (p:=fun t:Fm=>t.slots.all c6) (i:=i) aI (BY (i:=k) aI hv)])
  | (have hlk:=(oT ‹decide ((k:Int) < ((aC fs (i:Int)).slots.length:Int))=true›);have hv:c6 (aC (aC fs (i:Int)).slots (k:Int))=true:=(by simpa using ‹(!cQ (aC (aC fs (i:Int)).slots (k:Int)).k (aC (aC fs (i:Int)).slots (k:Int)).n (aC (aC fs (i:Int)).slots (k:Int)).s)=false›);refine ⟨_,_,?_,aW.pick_get _ [0,3,4],k + 1,_,rfl,⟨aL aI aI,by omega,p7 aI hva hv⟩,rfl,rfl⟩;omega)
  | (have hgk:=oF ‹decide ((k:Int) < ((aC fs (i:Int)).slots.length:Int))=false›;refine ⟨_,_,?_,aW.pick_get _ [0,3],i + 1,_,rfl,⟨aL aI aI,by omega,p7 (p:=fun t:Fm=>t.slots.all c6) aI hall (GM aI hva)⟩,rfl,rfl⟩;omega)
  | skip
end Go.Ab
