import Derived.Test.YtdeikigmgdnojaaGreatDoorT07
import Derived.Test.YtdeikigmgdnojaaGreatDoorT10
import Derived.Test.YtdeikigmgdnojaaGreatDoorT08
import Derived.Lib.LaidU8
import Derived.LaidSub
import Derived.Carry
import Derived.JoinedOf
import Derived.RowKit
import Derived.HandedShaped
import Derived.Shelf.Vars
import Derived.Test.YtdeikigmgdnojaaGreatDoorRows
/- A part of the proof of one law. -/
set_option maxRecDepth 100000
set_option maxHeartbeats 8000000
set_option linter.unusedVariables false
set_option linter.unusedSimpArgs false
namespace Go.Ab
open Go Go.Ab.Tryz Go.Proofs
structure Va where
 k:Int
 n:Int
 s:ByteArray
 deriving DecidableEq,Inhabited
abbrev Va.enc (v:Va):List aR:=[di v.k,di v.n,ds v.s]
abbrev Va.dv (v:Va):DV := .agg [iv v.k,iv v.n,sv v.s]
structure Fa where
 k:Int
 t:ByteArray
 deriving DecidableEq,Inhabited
abbrev Fa.enc (f:Fa):List aR:=[di f.k,ds f.t]
abbrev Fa.dv (f:Fa):DV := .agg [iv f.k,sv f.t]
structure In where
 op:Int
 a:Int
 b:Int
 c:Int
 v:Va
 l:List Int
 deriving Inhabited
abbrev uS (l:List Int):List (List aR):=l.map fun n=>[di n]
structure Gd where
 fr:Int
 to:Int
 at':Int
 slot:Int
 deriving DecidableEq,Inhabited
abbrev Gd.enc (g:Gd):List aR:=[di g.fr,di g.to,di g.at',di g.slot]
structure Fm where
 fn:Int
 pc:Int
 to:Int
 slots:List Va
 deriving Inhabited
abbrev Fm.enc (f:Fm):List aR:=[di f.fn,di f.pc,di f.to,ld (f.slots.map Va.enc)]
structure Fc where
 name:ByteArray
 params:Int
 slots:Int
 code:List In
 guards:List Gd
 deriving Inhabited
abbrev In.enc (i:In):List aR:=[di i.op,di i.a,di i.b,di i.c,di i.v.k,di i.v.n,ds i.v.s,ld (uS i.l)]
abbrev Fc.enc (f:Fc):List aR:=[ds f.name,di f.params,di f.slots,ld (f.code.map In.enc),ld (f.guards.map Gd.enc)]
structure Am where
 op:Int
 v:Va
 w:Va
 n:Int
 deriving DecidableEq,Inhabited
abbrev Am.enc (a:Am):List aR:=[di a.op,di a.v.k,di a.v.n,ds a.v.s,di a.w.k,di a.w.n,ds a.w.s,di a.n]
structure Ak where
 kind:Int
 n:Int
 m:Int
 v:Va
 w:Va
 fn:Int
 args:List Va
 arms:List Am
 f:Fa
 deriving DecidableEq,Inhabited
abbrev Ak.enc (a:Ak):List aR:=[di a.kind,di a.n,di a.m,di a.v.k,di a.v.n,ds a.v.s,di a.w.k,di a.w.n,ds a.w.s,di a.fn,ld (a.args.map Va.enc),ld (a.arms.map Am.enc),di a.f.k,ds a.f.t]
structure An where
 v:Va
 ix:Int
 f:Fa
 deriving DecidableEq,Inhabited
abbrev An.enc (a:An):List aR:=[di a.v.k,di a.v.n,ds a.v.s,di a.ix,di a.f.k,ds a.f.t]
structure Tn where
 done:Bool
 ask:Ak
 v:Va
 f:Fa
 deriving DecidableEq,Inhabited
abbrev Tn.enc (t:Tn):List aR:=db t.done::(t.ask.enc++[di t.v.k,di t.v.n,ds t.v.s,di t.f.k,ds t.f.t])
abbrev g9:Va:=⟨0,0,⟨#[]⟩⟩
abbrev kW:Fa:=⟨0,⟨#[]⟩⟩
abbrev iA (n:Int):Int:=IntKind.i64.wrap n
theorem JB:Tryz.prog.follows .mixedOrders=true:=by kernel_rfl
end Go.Ab
namespace Go.Ab
open Go Go.Ab.Tryz Go.Proofs
open Go.Proofs.YtdeikigmgdnojaaGreatDoor (Rows.machineTextsRow Rows.laid_internal_strconv_uint64pow10 Rows.laid_strings_asciiSpace Rows.laid_unicode_utf8_acceptRanges Rows.laid_unicode_utf8_first)
def iX (P:Program) (t:TypeId):Option (List TypeId):=match P.underlying t with
 | some (.struct fs)=>some (fs.toList.map (·.type))
 | _=>none
theorem gB.fields {P:Program} {t:TypeId} {xs:List aR} {ts:List TypeId} (h:gB P t xs) (hs:iX P t=some ts):pR P ts xs:=by
 unfold iX at hs
 split at hs
 ·rename_i fs hu;cases hs;exact h.struct_inv hu
 ·cases hs
theorem U6:Tryz.prog.underlying 3=some (.int .i64):=by kernel_rfl
theorem YR:Tryz.prog.underlying 9=some .string:=by kernel_rfl
theorem fC {xs:List aR} (h:gB Tryz.prog 3 xs):∃ n:Int,xs=[di n]:=by
 obtain ⟨n,rfl,_⟩:=h.int_inv U6;exact ⟨n,rfl⟩
theorem A1 {xs:List aR} (h:gB Tryz.prog 9 xs):∃ s:ByteArray,xs=[ds s]:=by
 obtain ⟨n,rfl,_⟩:=h.str_inv YR;exact ⟨n,rfl⟩
theorem rA {α:Type} {f:α→List aR} {t e:TypeId} {xs:List aR} (h:gB Tryz.prog t xs) (hu:Tryz.prog.underlying t=some (.slice e)) (hd:∀ cs,gB Tryz.prog e cs→∃ v,cs=f v):∃ l:List α,xs=[ld (l.map f)]:=by
 obtain ⟨es,rfl,_,he⟩:=h.slice_inv hu
 obtain ⟨l,rfl,_⟩:=tP (enc:=f) (ok:=fun _=>True) es (fun cs hc=>by obtain ⟨v,hv⟩:=hd cs (he cs hc);exact ⟨v,hv,trivial⟩)
 exact ⟨l,rfl⟩
theorem XY:iX Tryz.prog 35=some [3,3,9]:=by kernel_rfl
theorem XZ:iX Tryz.prog 38=some [3,9]:=by kernel_rfl
theorem UI:iX Tryz.prog 103=some [3,3,3,3]:=by kernel_rfl
theorem X2:iX Tryz.prog 80=some [3,3,3,3,35,78]:=by kernel_rfl
theorem X1:iX Tryz.prog 77=some [9,3,3,74,75]:=by kernel_rfl
theorem X0:iX Tryz.prog 63=some [3,3,3,25]:=by kernel_rfl
theorem UL:iX Tryz.prog 52=some [35,3,38]:=by kernel_rfl
theorem UJ:iX Tryz.prog 24=some [22]:=by kernel_rfl
theorem UK:iX Tryz.prog 28=some [24,3,25,26]:=by kernel_rfl
theorem VA:Tryz.prog.underlying 78=some (.slice 3):=by kernel_rfl
theorem U8:Tryz.prog.underlying 74=some (.slice 80):=by kernel_rfl
theorem U9:Tryz.prog.underlying 75=some (.slice 103):=by kernel_rfl
theorem U4:Tryz.prog.underlying 22=some (.slice 77):=by kernel_rfl
theorem QL:Tryz.prog.underlying 25=some (.slice 35):=by kernel_rfl
theorem U5:Tryz.prog.underlying 26=some (.slice 52):=by kernel_rfl
theorem QM:Tryz.prog.underlying 33=some (.slice 63):=by kernel_rfl
theorem A2 {xs:List aR} (h:gB Tryz.prog 35 xs):∃ v:Va,xs=v.enc:=by
 obtain ⟨a,r,rfl,ha,h⟩:=(h.fields XY).cons_inv
 obtain ⟨b,r,rfl,hb,h⟩:=h.cons_inv
 obtain ⟨c,r,rfl,hc,h⟩:=h.cons_inv
 obtain rfl:=h.nil_inv
 obtain ⟨k,rfl⟩:=fC ha
 obtain ⟨n,rfl⟩:=fC hb
 obtain ⟨s,rfl⟩:=A1 hc
 exact ⟨⟨k,n,s⟩,rfl⟩
theorem Q7 {xs:List aR} (h:gB Tryz.prog 38 xs):∃ v:Fa,xs=v.enc:=by
 obtain ⟨a,r,rfl,ha,h⟩:=(h.fields XZ).cons_inv
 obtain ⟨b,r,rfl,hb,h⟩:=h.cons_inv
 obtain rfl:=h.nil_inv
 obtain ⟨k,rfl⟩:=fC ha
 obtain ⟨s,rfl⟩:=A1 hb
 exact ⟨⟨k,s⟩,rfl⟩
theorem Q9 {xs:List aR} (h:gB Tryz.prog 103 xs):∃ v:Gd,xs=v.enc:=by
 obtain ⟨a,r,rfl,ha,h⟩:=(h.fields UI).cons_inv
 obtain ⟨b,r,rfl,hb,h⟩:=h.cons_inv
 obtain ⟨c,r,rfl,hc,h⟩:=h.cons_inv
 obtain ⟨d,r,rfl,hd,h⟩:=h.cons_inv
 obtain rfl:=h.nil_inv
 obtain ⟨a,rfl⟩:=fC ha
 obtain ⟨b,rfl⟩:=fC hb
 obtain ⟨c,rfl⟩:=fC hc
 obtain ⟨d,rfl⟩:=fC hd
 exact ⟨⟨a,b,c,d⟩,rfl⟩
theorem RA {xs:List aR} (h:gB Tryz.prog 80 xs):∃ v:In,xs=v.enc:=by
 obtain ⟨a,r,rfl,ha,h⟩:=(h.fields X2).cons_inv
 obtain ⟨b,r,rfl,hb,h⟩:=h.cons_inv
 obtain ⟨c,r,rfl,hc,h⟩:=h.cons_inv
 obtain ⟨d,r,rfl,hd,h⟩:=h.cons_inv
 obtain ⟨v,r,rfl,hv,h⟩:=h.cons_inv
 obtain ⟨l,r,rfl,hl,h⟩:=h.cons_inv
 obtain rfl:=h.nil_inv
 obtain ⟨a,rfl⟩:=fC ha
 obtain ⟨b,rfl⟩:=fC hb
 obtain ⟨c,rfl⟩:=fC hc
 obtain ⟨d,rfl⟩:=fC hd
 obtain ⟨v,rfl⟩:=A2 hv
 obtain ⟨l,rfl⟩:=rA (f:=fun n:Int=>[di n]) hl VA (fun cs=>fC)
 exact ⟨⟨a,b,c,d,v,l⟩,rfl⟩
theorem Q8 {xs:List aR} (h:gB Tryz.prog 77 xs):∃ v:Fc,xs=v.enc:=by
 obtain ⟨a,r,rfl,ha,h⟩:=(h.fields X1).cons_inv
 obtain ⟨b,r,rfl,hb,h⟩:=h.cons_inv
 obtain ⟨c,r,rfl,hc,h⟩:=h.cons_inv
 obtain ⟨d,r,rfl,hd,h⟩:=h.cons_inv
 obtain ⟨g,r,rfl,hg,h⟩:=h.cons_inv
 obtain rfl:=h.nil_inv
 obtain ⟨a,rfl⟩:=A1 ha
 obtain ⟨b,rfl⟩:=fC hb
 obtain ⟨c,rfl⟩:=fC hc
 obtain ⟨d,rfl⟩:=rA (f:=In.enc) hd U8 (fun cs=>RA)
 obtain ⟨g,rfl⟩:=rA (f:=Gd.enc) hg U9 (fun cs=>Q9)
 exact ⟨⟨a,b,c,d,g⟩,rfl⟩
theorem LR {xs:List aR} (h:gB Tryz.prog 52 xs):∃ v:An,xs=v.enc:=by
 obtain ⟨a,r,rfl,ha,h⟩:=(h.fields UL).cons_inv
 obtain ⟨b,r,rfl,hb,h⟩:=h.cons_inv
 obtain ⟨c,r,rfl,hc,h⟩:=h.cons_inv
 obtain rfl:=h.nil_inv
 obtain ⟨a,rfl⟩:=A2 ha
 obtain ⟨b,rfl⟩:=fC hb
 obtain ⟨c,rfl⟩:=Q7 hc
 exact ⟨⟨a,b,c⟩,rfl⟩
theorem CJ {xs:List aR} (h:gB Tryz.prog 24 xs):∃ c:List Fc,xs=[.lst (c.map Fc.enc)]:=by
 obtain ⟨a,r,rfl,ha,h⟩:=(h.fields UJ).cons_inv
 obtain rfl:=h.nil_inv
 obtain ⟨a,rfl⟩:=rA (f:=Fc.enc) ha U4 (fun cs=>Q8)
 exact ⟨a,rfl⟩
theorem LS {xs:List aR} (h:gB Tryz.prog 28 xs):∃ (c:List Fc) (fn:Int) (args:List Va) (ans:List An),xs=[.lst (c.map Fc.enc),di fn,ld (args.map Va.enc),ld (ans.map An.enc)]:=by
 obtain ⟨a,r,rfl,ha,h⟩:=(h.fields UK).cons_inv
 obtain ⟨b,r,rfl,hb,h⟩:=h.cons_inv
 obtain ⟨c,r,rfl,hc,h⟩:=h.cons_inv
 obtain ⟨d,r,rfl,hd,h⟩:=h.cons_inv
 obtain rfl:=h.nil_inv
 obtain ⟨a,rfl⟩:=CJ ha
 obtain ⟨b,rfl⟩:=fC hb
 obtain ⟨c,rfl⟩:=rA (f:=Va.enc) hc QL (fun cs=>A2)
 obtain ⟨d,rfl⟩:=rA (f:=An.enc) hd U5 (fun cs=>LR)
 exact ⟨a,b,c,d,rfl⟩
theorem AW {H:Type} {enc:TypeId × Value→H} {P:Program} {W:World} {base:Nat} {t:TypeId} {v:Value} {d:DataW H} {ps:List MemPlace} {n:Nat} {ts:List TypeId} (hs:iX P t=some ts) (hok:Value.okWide P W .any base t v)
  (h:DataW.Trod enc P W 0 (fun _=>true) true t v d ps) (hp:i6 P n t=true) (hw:(d.weights P t).all (·≤reachBytes)=true) :
  ∃ xs,gB P t xs∧aX (fun _=>none) W (fun _=>False) (.agg (xs.map .d)) v:=by
 obtain ⟨fuel,hf⟩:=h
 unfold iX at hs
 split at hs
 ·rename_i fs hu
  unfold Value.okWide at hok
  rw [hu] at hok
  obtain ⟨cs,rfl,_,_⟩:=hok
  obtain ⟨xs,h1,h2,h3,h4⟩:=pO n fuel t _ d ps hf hp hw
  have e:(Value.agg cs).cells=cs:=rfl
  rw [e] at h2 h4
  refine ⟨xs,h1,.agg _ _ (by simpa using h2.symm) fun i x y hx hy=>?_⟩
  rw [List.getElem?_map] at hx
  obtain ⟨x',hx',rfl⟩:=Option.map_eq_some_iff.1 hx
  exact .d (h4 i x' y hx' (by simpa using hy))
 ·cases hs
theorem XG:(List.range 11).filter (JG Tryz.prog)=[2,3,4,5,6]:=by kernel_rfl
theorem QD:Tryz.prog.globals.size=11:=by kernel_rfl
theorem JH {g:Nat} (h:JG Tryz.prog g=true):g=2∨g=3∨g=4∨g=5∨g=6:=by
 have hg:g < 11:=by
  rcases Nat.lt_or_ge g 11 with h' | h'
  ·exact h'
  ·have:Tryz.prog.globals[g]? = none:=Array.getElem?_eq_none (by rw [QD];exact h')
   simp [JG,nU,wU,isPow,this] at h
 have:g ∈ (List.range 11).filter (JG Tryz.prog):=List.mem_filter.2 ⟨List.mem_range.2 hg,h⟩
 rw [XG] at this
 simpa using this
theorem FD {w:World} {g:Nat} {vs:List Value} (hp:isPow Tryz.prog g=false) (hn:wU Tryz.prog g=false) (hg:nU Tryz.prog g=some vs) (hk:vs.all pU=true) (hc:∀ (j:Nat) v,vs[j]? = some v→w.cell? ⟨g,j,none⟩=some v):P4 Tryz.prog w g :=
 ⟨fun vs' h j v hv=>by
  rw [hg] at h
  cases h
  exact ⟨List.all_eq_true.1 hk v (List.mem_of_getElem? hv),hc j v hv⟩,fun h=>(by rw [hn] at h;cases h),fun h=>(by rw [hp] at h;cases h)⟩
theorem n6:Tryz.prog.globalNamed "strings.asciiSpace" = some 6:=by kernel_rfl
theorem n4:Tryz.prog.globalNamed "unicode/utf8.first" = some 4:=by kernel_rfl
theorem n5:Tryz.prog.globalNamed "unicode/utf8.acceptRanges" = some 5:=by kernel_rfl
theorem tabPowN:Tryz.prog.globalNamed "internal/strconv.uint64pow10" = some 2:=by kernel_rfl
theorem tabPowY:(Tryz.prog.globals[2]?).map (·.type)=some 275:=by kernel_rfl
theorem u275:Tryz.prog.underlying 275=some (.array 20 246):=by kernel_rfl
theorem u246:Tryz.prog.underlying 246=some (.int .u64):=by kernel_rfl
theorem k246:Tryz.prog.cellsOf 246=1:=by kernel_rfl
theorem k275:Tryz.prog.cellsOf 275=20:=by kernel_rfl
theorem y6:(Tryz.prog.globals[6]?).map (·.type)=some 297:=by kernel_rfl
theorem y4:(Tryz.prog.globals[4]?).map (·.type)=some 297:=by kernel_rfl
theorem y5:(Tryz.prog.globals[5]?).map (·.type)=some 300:=by kernel_rfl
theorem YN:Tryz.prog.underlying 297=some (.array 256 5):=by kernel_rfl
theorem YP:Tryz.prog.underlying 300=some (.array 16 299):=by kernel_rfl
theorem YO:Tryz.prog.underlying 299=some (.struct #[{ name := "lo",type:=5,offset:=0,embedded:=false,tag := "",pkgPath := "unicode/utf8",byteOffset:=0 },{ name := "hi",type:=5,offset:=1,embedded:=false,tag := "",pkgPath := "unicode/utf8",byteOffset:=1 }]):=by kernel_rfl
theorem u5:Tryz.prog.underlying 5=some (.int .u8):=by kernel_rfl
theorem k5:Tryz.prog.cellsOf 5=1:=by kernel_rfl
theorem XM:Tryz.prog.cellsOf 297=256:=by kernel_rfl
theorem T3:Tryz.prog.cellsOf 299=2:=by kernel_rfl
def AX:List Int:=(List.range 256).map fun n=>if (9≤n∧n≤13)∨n=32 then 1 else 0
theorem RC:(Rows.laid_strings_asciiSpace:DataW Unit)=Lib.tabData .u8 AX:=by kernel_rfl
def powZ:List Int:=(List.range 20).map fun i=>((10 ^ i:Nat):Int)
theorem ePow:(Rows.laid_internal_strconv_uint64pow10:DataW Unit)=Lib.tabData .u64 powZ:=by kernel_rfl
theorem RD:Rows.laid_unicode_utf8_first=Lib.firstData:=by kernel_rfl
theorem XD:(Rows.laid_unicode_utf8_acceptRanges:DataW Unit)=Lib.acceptData:=by kernel_rfl
theorem AJ {W:World} {n:String} {g:Nat} {zs:List Int} (hn:Tryz.prog.globalNamed n=some g) (hy:(Tryz.prog.globals[g]?).map (·.type)=some 297) (h:Lib.VarReads Tryz.prog W n (Lib.tabData .u8 zs)) :
  ∀ (j:Nat) v,(zs.map fun z=>Value.int .u8 z)[j]? = some v→W.cell? ⟨g,j,none⟩=some v:=by
 obtain ⟨g',t,cs,fuel,p,hg,hty,hvar,hd⟩:=h
 obtain rfl:=Option.some.inj (hn.symm.trans hg)
 obtain rfl:=Option.some.inj (hy.symm.trans hty)
 have hcs:=Lib.cells_of_tab YN u5 k5 XM hd
 intro j v hv
 rw [World.var?_cell hg hvar j,← Array.getElem?_toList,hcs]
 exact hv
theorem pow_cells {W:World} (h:Lib.VarReads Tryz.prog W "internal/strconv.uint64pow10" (Lib.tabData .u64 powZ)):∃ t fz,W.heap[2]? = some (.cells powTab t fz):=by
 obtain ⟨g',t,cs,fuel,p,hg,hty,hvar,hd⟩:=h
 obtain rfl:=Option.some.inj (tabPowN.symm.trans hg)
 obtain rfl:=Option.some.inj (tabPowY.symm.trans hty)
 have hcs:=Lib.cells_of_tab u275 u246 k246 k275 hd
 simp only [World.var?,tabPowN,Option.bind_some] at hvar
 split at hvar
 ·rename_i c t' fz hc
  cases hvar
  refine ⟨t',fz,?_⟩
  rw [hc]
  congr 2
  have:cs=powTab:=by
   rw [← Array.toList_inj,hcs]
   unfold powZ powTab
   rw [List.map_map]
   rfl
  rw [this]
 ·cases hvar
theorem ID {W:World} (h:Lib.VarReads Tryz.prog W "unicode/utf8.acceptRanges" Lib.acceptData):∀ i,i < 16→W.cell? ⟨5,2 * i,none⟩=some (.int .u8 (Lib.accLo i))∧W.cell? ⟨5,2 * i + 1,none⟩=some (.int .u8 (Lib.accHi i)):=by
 obtain ⟨g',t,cs,fuel,p,hg,hty,hvar,hd⟩:=h
 obtain rfl:=Option.some.inj (n5.symm.trans hg)
 obtain rfl:=Option.some.inj (y5.symm.trans hty)
 intro i hi
 obtain ⟨fuel',d,q,hdi,he⟩:=Lib.array_elem YP hd i hi
 simp only [List.getElem?_map,List.getElem?_range hi,Option.map_some,Option.some.injEq] at hdi
 subst hdi
 rw [T3] at he
 have hcs:=Lib.ints_of_struct YO (fun j f hj=>by
  match j,hj with
  | 0,hj=>simp at hj;subst hj;exact ⟨u5,rfl,k5⟩
  | 1,hj=>simp at hj;subst hj;exact ⟨u5,rfl,k5⟩
  | j + 2,hj=>simp at hj) (by rw [T3];rfl) he
 have e0:=congrArg (·[0]?) hcs
 have e1:=congrArg (·[1]?) hcs
 simp only [List.getElem?_take,List.getElem?_drop] at e0 e1
 constructor
 ·rw [World.var?_cell hg hvar (2 * i),← Array.getElem?_toList]
  simpa [Nat.mul_comm] using e0
 ·rw [World.var?_cell hg hvar (2 * i + 1),← Array.getElem?_toList]
  simpa [Nat.mul_comm] using e1
def N8:List Value:=(List.range 32).map fun j=>Value.int .u8 (if j % 2=0 then (Lib.accLo (j / 2):Int) else (Lib.accHi (j / 2):Int))
theorem g6:nU Tryz.prog 6=some (AX.map fun z=>Value.int .u8 z):=by kernel_rfl
theorem g4:nU Tryz.prog 4=some (Lib.firstTab.map fun z=>Value.int .u8 z):=by kernel_rfl
theorem g5:nU Tryz.prog 5=some N8:=by kernel_rfl
theorem glob_of {W:World} (r1:Lib.VarReads Tryz.prog W "strings.asciiSpace" (Lib.tabData .u8 AX)) (r2:Lib.VarReads Tryz.prog W "unicode/utf8.first" (Lib.tabData .u8 Lib.firstTab)) (r3:Lib.VarReads Tryz.prog W "unicode/utf8.acceptRanges" Lib.acceptData)
  (r4:Lib.VarReads Tryz.prog W "internal/strconv.uint64pow10" (Lib.tabData .u64 powZ)) (hS:W.ShapedOpen Tryz.prog):∀ g,JG Tryz.prog g=true→g < W.heap.size∧P4 Tryz.prog W g:=by
 obtain ⟨t2,f2,c2⟩:=pow_cells r4
 have c6:=AJ n6 y6 r1
 have c4:=AJ n4 y4 r2
 have c5:=ID r3
 have c5':∀ (j:Nat) v,N8[j]? = some v→W.cell? ⟨5,j,none⟩=some v:=by
  intro j v hv
  unfold N8 at hv
  rw [List.getElem?_map] at hv
  obtain ⟨j',hj',rfl⟩:=Option.map_eq_some_iff.1 hv
  have hj:j < 32:=by
   have:=(List.getElem?_eq_some_iff.1 hj').1
   simpa using this
  rw [List.getElem?_range hj] at hj'
  cases hj'
  obtain ⟨a,b⟩:=c5 (j / 2) (by omega)
  split
  ·rename_i h0;rw [show 2 * (j / 2)=j by omega] at a;exact a
  ·rename_i h0;rw [show 2 * (j / 2) + 1=j by omega] at b;exact b
 obtain ⟨m,c3⟩:=cell_of_shapedOpen_int (g:=3) (t:=3) (k := .i64) (zero:=#[.int .i64 0]) hS (by rw [QD];decide) (by kernel_rfl) rfl (by kernel_rfl) (by kernel_rfl) U6
 intro g hg
 rcases JH hg with rfl | rfl | rfl | rfl | rfl
 ·exact ⟨(Array.getElem?_eq_some_iff.1 c2).1,⟨fun vs h=>(by rw [show nU Tryz.prog 2=none by kernel_rfl] at h;cases h),fun h=>(by rw [show wU Tryz.prog 2=false by kernel_rfl] at h;cases h),fun _=>⟨t2,f2,c2⟩⟩⟩
 ·exact ⟨sZ c3,⟨fun vs h=>(by rw [show nU Tryz.prog 3=none by kernel_rfl] at h;cases h),fun _=>⟨m,c3⟩,fun h=>(by rw [show isPow Tryz.prog 3=false by kernel_rfl] at h;cases h)⟩⟩
 ·exact ⟨sZ (c4 0 (.int .u8 240) (by kernel_rfl)),FD (by kernel_rfl) (by kernel_rfl) g4 (by kernel_rfl) c4⟩
 ·exact ⟨sZ (c5 0 (by omega)).1,FD (by kernel_rfl) (by kernel_rfl) g5 (by kernel_rfl) c5'⟩
 ·exact ⟨sZ (c6 0 (.int .u8 0) (by kernel_rfl)),FD (by kernel_rfl) (by kernel_rfl) g6 (by kernel_rfl) c6⟩
theorem G6 {W:World} (hL:laidMetH Tryz.prog Rows.machineTextsRow.laid W) (hS:W.ShapedOpen Tryz.prog):∀ g,JG Tryz.prog g=true→g < W.heap.size∧P4 Tryz.prog W g:=by
 have hL:=(laidMetH_iff.1 hL).1
 rw [show (Rows.machineTextsRow.laid.filter fun x=>x.2.handleName?.isNone)=Rows.machineTextsRow.laid by kernel_rfl] at hL
 refine glob_of ?_ ?_ ?_ ?_ hS
 ·rw [← RC];exact Lib.laidMet.reads hL (.tail _ (.tail _ (.tail _ (.tail _ (.tail _ (.head _))))))
 ·have:=Lib.laidMet.reads hL (.tail _ (.tail _ (.tail _ (.tail _ (.tail _ (.tail _ (.head _)))))))
  rw [RD] at this;exact this
 ·rw [← XD];exact Lib.laidMet.reads hL (.tail _ (.tail _ (.tail _ (.head _))))
 ·rw [← ePow];exact Lib.laidMet.reads hL (.tail _ (.tail _ (.head _)))
theorem bY.calls {f:FuncId} {xs:List DV} {x:DV} {W:World} {vs:Array Value} (h:bY Tryz.prog f xs x) (hg:∀ g,JG Tryz.prog g=true→g < W.heap.size∧P4 Tryz.prog W g) (hr:cM (fun _=>none) W (fun _=>False) xs vs.toList) :
  Calls Tryz.prog f vs W fun e W'=>∃ v ι',e = .returned v∧aX ι' W' (fun _=>False) x v∧RowKit.Below W.heap.size W W':=by
 have hno:∀ b,¬ g8 (fun _=>none) [] b:=fun b ⟨i,o,u,k1,_⟩=>by simp [aA.look] at k1
 have em:∀ b,¬ bQ (fun _=>False) (fun _=>none) [] b:=fun b hb=>hb.elim (fun h=>h) (hno b)
 have hh:aQ Tryz.prog (fun _=>False) (fun _=>none) [] W:=⟨fun _ _=>rfl,fun id o ho=>by simp [aA.look] at ho,fun id id' o o' v v' b ho=>by simp [aA.look] at ho,fun b hb=>hb.elim,fun b hb=>absurd hb (hno b),fun g hg'=>⟨(hg g hg').1,em g,(hg g hg').2⟩⟩
 have hr':cM (fun _=>none) W (bQ (fun _=>False) (fun _=>none) []) xs vs.toList:=⟨hr.len,fun i x y h1 h2=>(hr.get i x y h1 h2).mono (fun _ _ h=>h) (a8.refl _ W) (fun b _ hb=>em b hb)⟩
 have:=h.run (fun _=>False) (fun _=>none) W vs.toList hh hr'
 rw [Array.toArray_toList] at this
 refine this.mono ?_
 rintro en w' ⟨v,r,σ',ι',rfl,⟨rfl,rfl⟩,hc,hv⟩
 refine ⟨v,ι',rfl,hv.mono (fun _ _ h=>h) (a8.refl _ w') (fun b _ hb=>hb.elim),⟨hc.frame.os,hc.frame.tape,hc.frame.output,hc.frame.size,fun k hk=>hc.frame.block k hk (hno k)⟩⟩
end Go.Ab
