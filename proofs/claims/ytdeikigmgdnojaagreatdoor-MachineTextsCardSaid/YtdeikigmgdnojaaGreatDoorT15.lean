import Derived.Shelf.Strings.Replace
import Derived.Shelf.Strings.Fields
import Derived.Test.YtdeikigmgdnojaaGreatDoorProg
import Derived.Test.YtdeikigmgdnojaaGreatDoorT07
import Derived.Test.YtdeikigmgdnojaaGreatDoorT09
import Derived.Test.YtdeikigmgdnojaaGreatDoorT14
/- A part of the proof of one law. -/
set_option maxRecDepth 100000
set_option maxHeartbeats 8000000
set_option linter.unusedVariables false
set_option linter.unusedSimpArgs false
namespace Go.Proofs
open Go.Shelf
def Tryz.lays157_ren:Go.Shelf.Ren:=⟨fun | 157=>242 | 229=>252 | 199=>253 | 261=>256 | 311=>264 | 312=>265 | n=>n,fun | 9=>9 | 31=>134 | 3=>3 | 5=>5 | 4=>4 | 119=>297 | 0=>0 | 40=>305 | 152=>308 | 21=>21 | 154=>310 | 51=>276 | 141=>312 | 196=>323 | 193=>320 | 198=>326 | 49=>324 | 194=>321 | 201=>329 | 226=>332 | 46=>128 | 227=>333 | n=>n,fun | 0=>6 | 6=>9 | n=>n⟩
theorem Tryz.lays157:Go.Proofs.Lays.n157 Tryz.prog Tryz.lays157_ren:={
 mixed:=by kernel_rfl
 f157:=Tryz.func242.trans (congrArg some (by kernel_rfl))
 f199:=Tryz.func253.trans (congrArg some (by kernel_rfl))
 f229:=Tryz.func252.trans (congrArg some (by kernel_rfl))
 f261:=Tryz.func256.trans (congrArg some (by kernel_rfl))
 f311:=Tryz.func264.trans (congrArg some (by kernel_rfl))
 f312:=Tryz.func265.trans (congrArg some (by kernel_rfl))
 t0:=Tryz.underlying0
 a0:=Tryz.isAgg0
 z0:=Tryz.sizeOf0
 v0:=Tryz.zeroValue0
 t3:=Tryz.underlying3
 a3:=Tryz.isAgg3
 z3:=Tryz.sizeOf3
 v3:=Tryz.zeroValue3
 t4:=Tryz.underlying4
 a4:=Tryz.isAgg4
 z4:=Tryz.sizeOf4
 v4:=Tryz.zeroValue4
 t5:=Tryz.underlying5
 a5:=Tryz.isAgg5
 z5:=Tryz.sizeOf5
 v5:=Tryz.zeroValue5
 t9:=Tryz.underlying9
 a9:=Tryz.isAgg9
 z9:=Tryz.sizeOf9
 v9:=Tryz.zeroValue9
 t21:=Tryz.underlying21
 a21:=Tryz.isAgg21
 z21:=Tryz.sizeOf21
 v21:=Tryz.zeroValue21
 t31:=Tryz.underlying134
 a31:=Tryz.isAgg134
 z31:=Tryz.sizeOf134
 v31:=Tryz.zeroValue134
 t40:=Tryz.underlying305
 a40:=Tryz.isAgg305
 z40:=Tryz.sizeOf305
 v40:=Tryz.zeroValue305
 t46:=Tryz.underlying128
 a46:=Tryz.isAgg128
 z46:=Tryz.sizeOf128
 v46:=Tryz.zeroValue128
 t49:=Tryz.underlying324
 a49:=Tryz.isAgg324
 z49:=Tryz.sizeOf324
 v49:=Tryz.zeroValue324
 t51:=Tryz.underlying276
 a51:=Tryz.isAgg276
 z51:=Tryz.sizeOf276
 v51:=Tryz.zeroValue276
 t119:=Tryz.underlying297
 a119:=Tryz.isAgg297
 z119:=Tryz.sizeOf297
 t141:=Tryz.underlying312
 a141:=Tryz.isAgg312
 z141:=Tryz.sizeOf312
 v141:=Tryz.zeroValue312
 t152:=Tryz.underlying308
 a152:=Tryz.isAgg308
 z152:=Tryz.sizeOf308
 v152:=Tryz.zeroValue308
 t154:=Tryz.underlying310
 a154:=Tryz.isAgg310
 z154:=Tryz.sizeOf310
 v154:=Tryz.zeroValue310
 t193:=Tryz.underlying320
 a193:=Tryz.isAgg320
 z193:=Tryz.sizeOf320
 v193:=Tryz.zeroValue320
 t194:=Tryz.underlying321
 a194:=Tryz.isAgg321
 z194:=Tryz.sizeOf321
 v194:=Tryz.zeroValue321
 t196:=Tryz.underlying323
 a196:=Tryz.isAgg323
 z196:=Tryz.sizeOf323
 v196:=Tryz.zeroValue323
 t198:=Tryz.underlying326
 a198:=Tryz.isAgg326
 z198:=Tryz.sizeOf326
 v198:=Tryz.zeroValue326
 t201:=Tryz.underlying329
 a201:=Tryz.isAgg329
 z201:=Tryz.sizeOf329
 v201:=Tryz.zeroValue329
 t226:=Tryz.underlying332
 a226:=Tryz.isAgg332
 z226:=Tryz.sizeOf332
 v226:=Tryz.zeroValue332
 t227:=Tryz.underlying333
 a227:=Tryz.isAgg333
 z227:=Tryz.sizeOf333
 v227:=Tryz.zeroValue333
 g0:=by kernel_rfl
 g6:=by kernel_rfl }
open Go.RowKit Go.Lib in
def Tryz.lays155_ren:Go.Shelf.Ren:=⟨fun | 155=>116 | 154=>160 | 138=>153 | 165=>151 | 143=>154 | 166=>67 | 197=>186 | 169=>69 | 195=>185 | 218=>187 | 240=>110 | 241=>184 | 219=>188 | 260=>226 | 276=>150 | 277=>225 | 217=>227 | 225=>228 | 224=>229 | 267=>230 | 266=>249 | 314=>250 | n=>n,fun | 9=>9 | 3=>3 | 4=>4 | 72=>132 | 0=>0 | 76=>138 | 105=>252 | 21=>21 | 5=>5 | 70=>129 | 20=>20 | 37=>130 | 75=>137 | 127=>174 | 164=>209 | 46=>128 | 119=>297 | 139=>300 | 138=>299 | 146=>301 | 51=>276 | 80=>141 | n=>n,fun | 1=>3 | 3=>4 | 4=>5 | n=>n⟩
theorem Tryz.lays155:Go.Proofs.Lays.n155 Tryz.prog Tryz.lays155_ren:={
 mixed:=by kernel_rfl
 f138:=Tryz.func153.trans (congrArg some (by kernel_rfl))
 f143:=Tryz.func154.trans (congrArg some (by kernel_rfl))
 f154:=Tryz.func160.trans (congrArg some (by kernel_rfl))
 f155:=Tryz.func116.trans (congrArg some (by kernel_rfl))
 f165:=Tryz.func151.trans (congrArg some (by kernel_rfl))
 f166:=Tryz.func67.trans (congrArg some (by kernel_rfl))
 f169:=Tryz.func69.trans (congrArg some (by kernel_rfl))
 f195:=Tryz.func185.trans (congrArg some (by kernel_rfl))
 f197:=Tryz.func186.trans (congrArg some (by kernel_rfl))
 f217:=Tryz.func227.trans (congrArg some (by kernel_rfl))
 f218:=Tryz.func187.trans (congrArg some (by kernel_rfl))
 f219:=Tryz.func188.trans (congrArg some (by kernel_rfl))
 f224:=Tryz.func229.trans (congrArg some (by kernel_rfl))
 f225:=Tryz.func228.trans (congrArg some (by kernel_rfl))
 f240:=Tryz.func110.trans (congrArg some (by kernel_rfl))
 f241:=Tryz.func184.trans (congrArg some (by kernel_rfl))
 f260:=Tryz.func226.trans (congrArg some (by kernel_rfl))
 f266:=Tryz.func249.trans (congrArg some (by kernel_rfl))
 f267:=Tryz.func230.trans (congrArg some (by kernel_rfl))
 f276:=Tryz.func150.trans (congrArg some (by kernel_rfl))
 f277:=Tryz.func225.trans (congrArg some (by kernel_rfl))
 f314:=Tryz.func250.trans (congrArg some (by kernel_rfl))
 t0:=Tryz.underlying0
 a0:=Tryz.isAgg0
 z0:=Tryz.sizeOf0
 v0:=Tryz.zeroValue0
 t3:=Tryz.underlying3
 a3:=Tryz.isAgg3
 z3:=Tryz.sizeOf3
 v3:=Tryz.zeroValue3
 t4:=Tryz.underlying4
 a4:=Tryz.isAgg4
 z4:=Tryz.sizeOf4
 v4:=Tryz.zeroValue4
 t5:=Tryz.underlying5
 a5:=Tryz.isAgg5
 z5:=Tryz.sizeOf5
 v5:=Tryz.zeroValue5
 t9:=Tryz.underlying9
 a9:=Tryz.isAgg9
 z9:=Tryz.sizeOf9
 v9:=Tryz.zeroValue9
 t20:=Tryz.underlying20
 a20:=Tryz.isAgg20
 z20:=Tryz.sizeOf20
 v20:=Tryz.zeroValue20
 t21:=Tryz.underlying21
 a21:=Tryz.isAgg21
 z21:=Tryz.sizeOf21
 v21:=Tryz.zeroValue21
 t37:=Tryz.underlying130
 a37:=Tryz.isAgg130
 z37:=Tryz.sizeOf130
 v37:=Tryz.zeroValue130
 t46:=Tryz.underlying128
 a46:=Tryz.isAgg128
 z46:=Tryz.sizeOf128
 v46:=Tryz.zeroValue128
 t51:=Tryz.underlying276
 a51:=Tryz.isAgg276
 z51:=Tryz.sizeOf276
 v51:=Tryz.zeroValue276
 t70:=Tryz.underlying129
 a70:=Tryz.isAgg129
 z70:=Tryz.sizeOf129
 v70:=Tryz.zeroValue129
 t72:=Tryz.underlying132
 a72:=Tryz.isAgg132
 z72:=Tryz.sizeOf132
 v72:=Tryz.zeroValue132
 t75:=Tryz.underlying137
 a75:=Tryz.isAgg137
 z75:=Tryz.sizeOf137
 v75:=Tryz.zeroValue137
 t76:=Tryz.underlying138
 a76:=Tryz.isAgg138
 z76:=Tryz.sizeOf138
 v76:=Tryz.zeroValue138
 t105:=Tryz.underlying252
 a105:=Tryz.isAgg252
 z105:=Tryz.sizeOf252
 v105:=Tryz.zeroValue252
 t119:=Tryz.underlying297
 a119:=Tryz.isAgg297
 z119:=Tryz.sizeOf297
 t127:=Tryz.underlying174
 a127:=Tryz.isAgg174
 z127:=Tryz.sizeOf174
 v127:=Tryz.zeroValue174
 t138:=Tryz.underlying299
 a138:=Tryz.isAgg299
 z138:=Tryz.sizeOf299
 v138:=Tryz.zeroValue299
 t139:=Tryz.underlying300
 a139:=Tryz.isAgg300
 z139:=Tryz.sizeOf300
 v139:=Tryz.zeroValue300
 t146:=Tryz.underlying301
 a146:=Tryz.isAgg301
 z146:=Tryz.sizeOf301
 v146:=Tryz.zeroValue301
 t164:=Tryz.underlying209
 a164:=Tryz.isAgg209
 z164:=Tryz.sizeOf209
 v164:=Tryz.zeroValue209
 g1:=by kernel_rfl
 g3:=by kernel_rfl
 g4:=by kernel_rfl }
theorem Tryz.Builder_Extra_155:Builder.Extra Tryz.prog Tryz.lays155_ren:={
 sizeBuilder:=by kernel_rfl
 liesBuilder:=by kernel_rfl
 t5:=Tryz.underlying5
 a5:=Tryz.isAgg5
 z5:=Tryz.sizeOf5
 v5:=Tryz.zeroValue5
 infoByte:=by kernel_rfl
 cellsByte:=by kernel_rfl
 sizeByte:=by kernel_rfl
 neB5:=by decide }
open Go.RowKit Go.Lib in
theorem Tryz.strings_ReplaceAll (s old new:ByteArray) (m:Int) (w:World) (hs:s.size < 4294967281) (hm:w.cell? ⟨3,0,none⟩=some (.int .i64 m)) (h1:1≤old.size) (hlen:s.size + Lib.countB s old * new.size≤140737488355328) :
  Calls Tryz.prog 116 #[.string s,.string old,.string new] w fun e w' =>
   e = .returned (.string ⟨(Lib.replaceAll s.data.toList old.data.toList new.data.toList).toArray⟩)∧Below w.heap.size w w':=Any.strings_ReplaceAll Tryz.lays155 Tryz.Builder_Extra_155 s old new m w hs hm h1 hlen
end Go.Proofs
namespace Go.Ab
open Go Go.Ab.Tryz Go.Proofs
theorem TV:wU Tryz.prog 3=true:=by kernel_rfl
theorem L9:nU Tryz.prog 6=some (ST ((List.range 256).map fun n=>if (9≤n∧n≤13)∨n=32 then 1 else 0)):=by kernel_rfl
def pV (s old new:ByteArray):ByteArray:=⟨(Lib.replaceAll s.data.toList old.data.toList new.data.toList).toArray⟩
theorem L5 {P:Program} {X:Nat→Prop} {w:World} (h:aQ P X (fun _=>none) [] w) {g:Nat} (hg:JG P g=true):P4 P w g:=(h.glob g hg).2.2
theorem r7 (s old new:ByteArray) (h1:1≤old.size) (hs:s.size < 4294967281) (hlen:s.size + Lib.countB s old * new.size≤140737488355328) (hok:(pV s old new).size≤maxLen):bY Tryz.prog 116 [.d (.sc (.string s)),.d (.sc (.string old)),.d (.sc (.string new))] (.d (.sc (.string (pV s old new)))):=by
 refine bY.of_calls (by kernel_rfl) fun X w vs hh hr=>?_
 obtain ⟨m,hm⟩:=(L5 hh (by simp [JG,TV]:JG Tryz.prog 3=true)).num TV
 have hlen3:vs.length=3:=hr.len
 obtain ⟨a,b,c,rfl⟩:∃ a b c,vs=[a,b,c]:=by
  match vs,hlen3 with
  | [a,b,c],_=>exact ⟨a,b,c,rfl⟩
 have ha:=(hr.get 0 _ a rfl rfl).sc_inv.1
 have hb:=(hr.get 1 _ b rfl rfl).sc_inv.1
 have hc:=(hr.get 2 _ c rfl rfl).sc_inv.1
 subst ha hb hc
 refine (Tryz.strings_ReplaceAll s old new m w hs hm h1 hlen).mono fun e w' ⟨he,hw⟩=>?_
 exact ⟨_,he,fun Y _ _ => .d (.sc _ (by simpa [pU] using hok)),hw⟩
theorem US:∀ c:_root_.Fin 256,(Int.ofNat (if (9≤c.val∧c.val≤13)∨c.val=32 then 1 else 0))=(if Lib.isSp (UInt8.ofNat c.val) then 1 else 0:Int):=by decide +kernel
theorem I8 (s : ByteArray) (hs : s.size < 4294967281) (hascii : ∀ (j : Nat) b, s.data.toList[j]? = some b → b.toNat < 128) (hn : (Lib.fields s.data.toList).length ≤ gY) (hp : 0 < (Lib.fields s.data.toList).length) (hsz : ∀ l ∈ Lib.fields s.data.toList, l.length ≤ maxLen) :
    bY Tryz.prog 242 [.d (.sc (.string s))] (.d (.lst ((Lib.fields s.data.toList).map fun l => [.sc (.string ⟨l.toArray⟩)]))) := by
  refine bY.of_calls (by kernel_rfl) fun X w vs hh hr => ?_
  have hG := (L5 hh (by simp [JG, L9] : JG Tryz.prog 6 = true)).tab _ L9
  obtain ⟨a, rfl⟩ : ∃ a, vs = [a] := by
    match vs, hr.len with
    | [a], _ => exact ⟨a, rfl⟩
  have ha := (hr.get 0 _ a rfl rfl).sc_inv.1
  subst ha
  refine (Any.strings_Fields_core Tryz.lays157 (by kernel_rfl) s w hs hascii (fun c hc => ?_)).mono fun e w' ⟨he, hw⟩ => ?_
  · refine (hG c (.int .u8 (if Lib.isSp (UInt8.ofNat c) then 1 else 0)) ?_).2
    have key : ∀ c : _root_.Fin 256, (ST ((List.range 256).map fun n => if (9 ≤ n ∧ n ≤ 13) ∨ n = 32 then 1 else 0))[c.val]? = some (Value.int .u8 (if Lib.isSp (UInt8.ofNat c.val) then 1 else 0)) := by
      intro c
      simp only [ST, List.map_map, List.getElem?_map, List.getElem?_range c.2, Option.map_some, Function.comp]
      congr 2
      exact US c
    exact key ⟨c, hc⟩
  · subst he
    refine ⟨_, rfl, fun Y hY _ => ?_, ?_⟩
    · subst hw
      refine .d (.lst w.heap.size 0 _ _ 1 _ (fun i j => (((Lib.fields s.data.toList).map fun l => Value.string ⟨l.toArray⟩).getD (i * 1 + j) undef)) (by simp) (Nat.le_refl _) hn (by show _ < (w.heap.push _).size; simp only [Array.size_push]; omega) (fun h => absurd (hY _ h) (Nat.lt_irrefl _)) (fun i cs h => ?_) (fun i j cs x h1 h2 => ?_) (fun i j cs x h1 h2 => ?_))
      · rw [List.getElem?_map] at h
        obtain ⟨l, _, rfl⟩ := Option.map_eq_some_iff.1 h
        rfl
      all_goals
        rw [List.getElem?_map] at h1
        obtain ⟨l, hl, rfl⟩ := Option.map_eq_some_iff.1 h1
        cases j with
        | succ j => simp at h2
        | zero =>
          simp at h2
          subst h2
          have hi := (List.getElem?_eq_some_iff.1 hl).1
          have hv : ((Lib.fields s.data.toList).map fun l => Value.string ⟨l.toArray⟩)[i]? = some (.string ⟨l.toArray⟩) := by rw [List.getElem?_map, hl]; rfl
          first
          | (show World.cell? { w with heap := w.heap.push _ } _ = _
             unfold World.cell?
             simp only [Array.getElem?_push, if_true, Nat.zero_add]
             simp only [Option.isSome_none, Bool.false_eq_true, if_false, List.getElem?_toArray, List.getD_eq_getElem?_getD]
             simp only [Nat.mul_one, Nat.add_zero, hv, Option.getD_some]; done)
          | (have : ((((Lib.fields s.data.toList).map fun l => Value.string ⟨l.toArray⟩)).getD (i * 1 + 0) undef) = .string ⟨l.toArray⟩ := by simp only [List.getD_eq_getElem?_getD, Nat.mul_one, Nat.add_zero, hv, Option.getD_some]
             rw [this]
             exact .sc _ (by have := hsz l (List.mem_of_getElem? hl); show decide ((⟨l.toArray⟩ : ByteArray).size ≤ maxLen) = true; rw [decide_eq_true_eq]; exact this))
    · subst hw
      exact ⟨rfl, rfl, rfl, by show _ ≤ (w.heap.push _).size; simp only [Array.size_push]; omega, fun k hk => by show (w.heap.push _)[k]? = _; rw [Array.getElem?_push, if_neg (by omega)]⟩
def pQ:List ByteArray:=[⟨#[97,102,116,101,114]⟩,⟨#[97,119,97,105,116]⟩,⟨#[98,111,111,108]⟩,⟨#[98,114,101,97,107]⟩,⟨#[98,117,102,102,101,114]⟩,⟨#[99,97,110,99,101,108]⟩,⟨#[99,97,116,99,104]⟩,⟨#[99,104,97,110]⟩,⟨#[99,108,111,115,101]⟩,⟨#[99,111,110,116,105,110,117,101]⟩,⟨#[100,114,111,112]⟩,⟨#[101,97,99,104]⟩,⟨#[101,108,115,101]⟩,⟨#[101,109,105,116]⟩,⟨#[102,97,108,115,101]⟩,⟨#[102,105,110,97,108,108,121]⟩,⟨#[102,108,111,119]⟩,⟨#[102,110]⟩,⟨#[102,114,111,109]⟩,⟨#[104,111,108,100]⟩,⟨#[105,102]⟩,⟨#[105,110,116]⟩,⟨#[108,101,116]⟩,⟨#[108,111,99,107]⟩,⟨#[110,101,119]⟩,⟨#[110,111,119]⟩,⟨#[111,108,100]⟩,⟨#[112,114,111,100,117,99,101]⟩,⟨#[114,101,99,101,105,118,101]⟩,⟨#[114,101,116,117,114,110]⟩,⟨#[115,99,111,112,101]⟩,⟨#[115,101,108,101,99,116]⟩,⟨#[115,101,110,100]⟩,⟨#[115,104,105,101,108,100]⟩,⟨#[115,108,101,101,112]⟩,⟨#[115,112,97,119,110]⟩,⟨#[115,117,112,101,114,118,105,115,101,100]⟩,⟨#[116,97,115,107]⟩,⟨#[116,101,120,116]⟩,⟨#[116,104,114,111,119]⟩,⟨#[116,114,117,101]⟩,⟨#[116,114,121]⟩,⟨#[117,115,101]⟩,⟨#[119,104,105,108,101]⟩,⟨#[119,105,116,104,105,110]⟩,⟨#[121,105,101,108,100]⟩]
abbrev F7 (l:List ByteArray):List (List aR):=l.map fun s=>[ds s]
def rE (s:ByteArray):Bool:=pQ.any fun x=>decide (s=x)
theorem C3 (s:ByteArray):(pQ.any fun x=>decide (x=s))=rE s:=by
 unfold rE
 congr 1;funext x;rw [decide_eq_decide];exact eq_comm
abbrev nY:ByteArray:=⟨#[97,102,116,101,114,32,97,119,97,105,116,32,98,111,111,108,32,98,114,101,97,107,32,98,117,102,102,101,114,32,99,97,110,99,101,108,32,99,97,116,99,104,32,99,104,97,110,32,99,108,111,115,101,32,99,111,110,116,105,110,117,101,32,100,114,111,112,32,101,97,99,104,32,101,108,115,101,32,101,109,105,116,32,102,97,108,115,101,32,102,105,110,97,108,108,121,32,102,108,111,119,32,102,110,32,102,114,111,109,32,104,111,108,100,32,105,102,32,105,110,116,32,108,101,116,32,108,111,99,107,32,110,101,119,32,110,111,119,32,111,108,100,32,112,114,111,100,117,99,101,32,114,101,99,101,105,118,101,32,114,101,116,117,114,110,32,115,99,111,112,101,32,115,101,108,101,99,116,32,115,101,110,100,32,115,104,105,101,108,100,32,115,108,101,101,112,32,115,112,97,119,110,32,115,117,112,101,114,118,105,115,101,100,32,116,97,115,107,32,116,101,120,116,32,116,104,114,111,119,32,116,114,117,101,32,116,114,121,32,117,115,101,32,119,104,105,108,101,32,119,105,116,104,105,110,32,121,105,101,108,100]⟩
theorem NP:(Lib.fields nY.data.toList).map (fun l=>(⟨l.toArray⟩:ByteArray))=pQ:=by decide +kernel
theorem EL:∀ (j:Nat) b,nY.data.toList[j]? = some b→b.toNat < 128:=by
 have h:nY.data.toList.all (fun b=>decide (b.toNat < 128))=true:=by decide +kernel
 intro j b hb
 simpa using List.all_eq_true.1 h b (List.mem_of_getElem? hb)
theorem AR:(Lib.fields nY.data.toList).length≤gY∧0 < (Lib.fields nY.data.toList).length:=by decide +kernel
theorem EM:∀ l ∈ Lib.fields nY.data.toList,l.length≤maxLen:=by
 have h:(Lib.fields nY.data.toList).all (fun l=>decide (l.length≤100))=true:=by decide +kernel
 intro l hl
 have:=List.all_eq_true.1 h l hl
 simp at this
 unfold maxLen;omega
theorem A6:bY Tryz.prog 242 [sv nY] (lv (F7 pQ)):=by
 have h:=I8 nY (by decide +kernel) EL AR.1 AR.2 EM
 rw [show ((Lib.fields nY.data.toList).map fun l=>[aR.sc (.string ⟨l.toArray⟩)])=F7 pQ by rw [← NP];show _=List.map _ (List.map _ _);rw [List.map_map];rfl] at h
 exact h
theorem NQ  :
  bY Tryz.prog 203 [] (lv (F7 pQ)):=by
 refine of_body Tryz.func203 rfl rfl (nB rfl) ?_
 rw [Tryz.ntmps203]
 repeat' (first | ((with_reducible refine kw ?_);first | refine bJ ?_ | (refine aJ ?_;refine tD A6 ?_)) | refine GA ?_ | refine GG ?_ | ((with_reducible refine kf ?_);refine aP 0 Tryz.results203 rfl rfl rfl ?_) | refine GR ?_ | ((with_reducible refine kr ?_);refine aG rfl ?_) | fail)
 all_goals (refine dG ?_;first | (simp_all only [dT,dF,gt_iff_lt,ge_iff_le,b0,b1,b2,b3,b4,true_or,or_true,false_or,or_false,true_and,and_true,and_false,false_and,and_self,or_self,if_true,if_false,ite_true,ite_false,not_true_eq_false,not_false_eq_true,b5,b6,b7,b8,c1,c2,b9,c0,c3,c4,decide_true,decide_false,reduceCtorEq,ne_eq];first | done | rfl) | (simp_all [DV.norm,DV.norms,bG,aH];first | done | omega))
theorem KN  :
  bY Tryz.prog 133 [] (lv (F7 pQ)):=by
 refine of_body Tryz.func133 rfl rfl (nB rfl) ?_
 rw [Tryz.ntmps133]
 repeat' (first | ((with_reducible refine kw ?_);first | refine bJ ?_ | refine KS ?_) | refine GA ?_ | refine GG ?_ | ((with_reducible refine kf ?_);refine aP 0 Tryz.results133 rfl rfl rfl ?_) | refine GR ?_ | ((with_reducible refine kr ?_);refine aG rfl ?_) | fail)
 all_goals (refine dG ?_;rfl)
theorem ME (l:List ByteArray) (s:ByteArray) :
  bY Tryz.prog 241 [lv (F7 l),sv s] (iv (j8 (fun x=>decide (s=x)) l)):=by
 refine aB.assume rfl fun hok _=>?_
 have hlen:=dK (hok (lv (F7 l)) eS)
 simp only [List.length_map] at hlen
 refine of_body Tryz.func241 rfl rfl (nB rfl) ?_
 rw [Tryz.ntmps241]
 repeat' (first | ((with_reducible refine kw ?_);first | refine W0 ?_ | refine W2 ?_ | refine W6 ?_ | refine bJ ?_ | refine wR ?_ | refine gZ ?_) | refine GA ?_ | refine GG ?_ | (refine cJ (fun hb=>?_) (fun hb=>?_) <;> try rw [hb]) | ((with_reducible refine kf ?_);refine aP 0 Tryz.results241 rfl rfl rfl ?_) | refine GR ?_ | ((with_reducible refine kr ?_);refine aG rfl ?_) | fail)
 refine cF [0,1,7,8] rfl ?_
 refine i2 (n:=_) (fun n e σ=>∃ (i:Nat) (m:Int),n=l.length - i∧(m=i∧i≤l.length∧(l.take i).any (fun x=>decide (s=x))=false)∧e=[(0,_),(1,_),(7,_),(8,iv m)]∧σ=_) ⟨0,0,rfl,⟨rfl,Nat.zero_le _,rfl⟩,rfl,rfl⟩ ?_
 rintro n e σ ⟨i,m,rfl,⟨rfl,hi,hall⟩,rfl,rfl⟩
 repeat' (first | ((with_reducible refine kw ?_);first | refine W0 ?_ | refine W2 ?_ | refine W6 ?_ | refine bJ ?_ | refine wR ?_ | refine gZ ?_) | refine GA ?_ | refine GG ?_ | (refine cJ (fun hb=>?_) (fun hb=>?_) <;> try rw [hb]) | ((with_reducible refine kf ?_);refine aP 0 Tryz.results241 rfl rfl rfl ?_) | refine GR ?_ | ((with_reducible refine kr ?_);refine aG rfl ?_) | fail)
 all_goals first
  | (have hlt:=oT ‹decide ((i:Int) < (l.length:Int))=true›;refine dG ?_;show iv _=iv _;rw [m3 (p:=fun x=>decide (s=x)) aI hall ET])
  | (have hlt:=oT ‹decide ((i:Int) < (l.length:Int))=true›;refine ⟨_,_,?_,aW.pick_get _ [0,1,7,8],i + 1,_,rfl,⟨aL aI aI,by omega,mU aI hall ET⟩,rfl,rfl⟩;omega)
  | (have hge:=oF ‹decide ((i:Int) < (l.length:Int))=false›;refine dG ?_;show iv _=iv _;rw [iN (o3 aI hall)])
theorem CE (l:List ByteArray) (s:ByteArray) :
  bY Tryz.prog 202 [lv (F7 l),sv s] (bv (l.any fun x=>decide (s=x))):=by
 refine of_body Tryz.func202 rfl rfl (nB rfl) ?_
 rw [Tryz.ntmps202]
 repeat' (first | ((with_reducible refine kw ?_);first | refine W0 ?_ | refine W6 ?_ | refine bJ ?_ | (refine aJ ?_;refine tD (ME l s) ?_)) | refine GA ?_ | refine GG ?_ | ((with_reducible refine kf ?_);refine aP 0 Tryz.results202 rfl rfl rfl ?_) | refine GR ?_ | ((with_reducible refine kr ?_);refine aG rfl ?_) | fail)
 all_goals (refine dG ?_;show bv _=bv _;rw [← oD (p:=fun x=>decide (s=x)) (l:=l)])
theorem FJ (s:ByteArray) :
  bY Tryz.prog 166 [sv s] (bv (rE s)):=by
 refine of_body Tryz.func166 rfl rfl (nB rfl) ?_
 rw [Tryz.ntmps166]
 repeat' (first | ((with_reducible refine kw ?_);first | refine W0 ?_ | refine bJ ?_ | (refine aJ ?_;first | refine tD NQ ?_ | refine tD (CE pQ s) ?_)) | refine GA ?_ | refine GG ?_ | ((with_reducible refine kf ?_);refine aP 0 Tryz.results166 rfl rfl rfl ?_) | refine GR ?_ | ((with_reducible refine kr ?_);refine aG rfl ?_) | fail)
 all_goals (refine dG ?_;rfl)
theorem JI (s:ByteArray) :
  bY Tryz.prog 88 [sv s] (bv (rE s)):=by
 refine of_body Tryz.func88 rfl rfl (nB rfl) ?_
 rw [Tryz.ntmps88]
 repeat' (first | ((with_reducible refine kw ?_);first | refine W0 ?_ | refine W2 ?_ | refine W6 ?_ | refine bJ ?_ | (refine aJ ?_;refine tD KN ?_) | refine wR ?_ | refine gZ ?_) | refine GA ?_ | refine GG ?_ | (refine cJ (fun hb=>?_) (fun hb=>?_) <;> try rw [hb]) | ((with_reducible refine kf ?_);refine aP 0 Tryz.results88 rfl rfl rfl ?_) | refine GR ?_ | ((with_reducible refine kr ?_);refine aG rfl ?_) | fail)
 rw [← C3]
 generalize hw:pQ=l
 have hlen:(l.length:Int)≤100:=by subst hw;decide
 clear hw
 refine cF [0,3,4] rfl ?_
 refine i2 (n:=_) (fun n e σ=>∃ (i:Nat) (m:Int),n=l.length - i∧(m=i∧i≤l.length∧(l.take i).any (fun x=>decide (x=s))=false)∧e=[(0,_),(3,_),(4,iv m)]∧σ=_) ⟨0,0,rfl,⟨rfl,Nat.zero_le _,rfl⟩,rfl,rfl⟩ ?_
 rintro n e σ ⟨i,m,rfl,⟨rfl,hi,hall⟩,rfl,rfl⟩
 repeat' (first | ((with_reducible refine kw ?_);first | refine W0 ?_ | refine W2 ?_ | refine W6 ?_ | refine bJ ?_ | refine wR ?_ | refine gZ ?_) | refine GA ?_ | refine GG ?_ | (refine cJ (fun hb=>?_) (fun hb=>?_) <;> try rw [hb]) | ((with_reducible refine kf ?_);refine aP 0 Tryz.results88 rfl rfl rfl ?_) | refine GR ?_ | ((with_reducible refine kr ?_);refine aG rfl ?_) | fail)
 all_goals first
  | (have hlt:=oT ‹decide ((i:Int) < (l.length:Int))=true›;refine dG ?_;show bv _=bv _;have hx:=B0 (p:=fun x=>decide (x=s)) (l:=l) (i:=i) aI ET;rw [hx])
  | (have hlt:=oT ‹decide ((i:Int) < (l.length:Int))=true›;refine ⟨_,_,?_,aW.pick_get _ [0,3,4],i + 1,_,rfl,⟨aL aI aI,by omega,mU aI hall ET⟩,rfl,rfl⟩;omega)
  | (have hge:=oF ‹decide ((i:Int) < (l.length:Int))=false›;refine dG ?_;show bv _=bv _;rw [o3 aI hall])
def HA (c:Int):Bool:=decide (97≤c) && decide (c≤122)
def LT (c:Int):Bool:=decide (48≤c) && decide (c≤57)
def DN (s:ByteArray) (i:Nat):Bool:=HA (bt s i) || (decide (i≠0) && LT (bt s i))
def jD (s:ByteArray):Bool:=fN s.size (DN s) && decide (1≤s.size) && decide (s.size≤12) && !rE s
theorem mS (s:ByteArray) :
  bY Tryz.prog 46 [sv s] (bv (jD s)):=by
 refine aB.assume rfl fun hok _=>?_
 have hlen:=wG (hok (sv s) eS)
 unfold maxLen at hlen
 refine of_body Tryz.func46 rfl rfl (nB rfl) ?_
 rw [Tryz.ntmps46]
 repeat' (first | ((with_reducible refine kw ?_);first | refine Wg ?_ | refine W0 ?_ | refine W6 ?_ | refine bJ ?_ | refine eT ?_ | refine gQ ?_ | refine K2 ?_ | refine P9 ?_) | refine GX ?_ | (refine bW (fun hb=>?_) (fun hb=>?_) <;> rw [hb]) | refine GA ?_ | refine GG ?_ | (refine cJ (fun hb=>?_) (fun hb=>?_) <;> try rw [hb]) | ((with_reducible refine kf ?_);refine aP 0 Tryz.results46 rfl rfl rfl ?_) | refine GR ?_ | ((with_reducible refine kr ?_);refine aG rfl ?_) | fail)
 refine cF [0,3] rfl ?_
 refine i2 (n:=_) (fun n e σ=>∃ (i:Nat) (m:Int),n=s.size - i∧(m=i∧i≤s.size∧fN i (DN s)=true)∧e=[(0,_),(3,iv m)]∧σ=_) ⟨0,0,rfl,⟨rfl,Nat.zero_le _,rfl⟩,rfl,rfl⟩ ?_
 rintro n e σ ⟨i,m,rfl,⟨rfl,hi,hall⟩,rfl,rfl⟩
 repeat' (first | ((with_reducible refine kw ?_);first | refine Wg ?_ | refine W0 ?_ | refine W6 ?_ | refine bJ ?_ | (refine aJ ?_;first | refine tD (JL _) ?_ | refine tD (LU _) ?_ | refine tD (JI _) ?_) | refine eT ?_ | refine gQ ?_ | refine K2 ?_ | refine P9 ?_) | refine GX ?_ | (refine bW (fun hb=>?_) (fun hb=>?_) <;> rw [hb]) | refine GA ?_ | refine GG ?_ | (refine cJ (fun hb=>?_) (fun hb=>?_) <;> try rw [hb]) | ((with_reducible refine kf ?_);refine aP 0 Tryz.results46 rfl rfl rfl ?_) | refine GR ?_ | ((with_reducible refine kr ?_);refine aG rfl ?_) | fail)
 all_goals first
  | (refine dG ?_;have hx:=eD (n:=s.size) (p:=DN s) (i:=i) VY VW;first | (simp_all only [jD,dT,dF,gt_iff_lt,ge_iff_le,b0,b1,b2,b3,b4,true_or,or_true,false_or,or_false,true_and,and_true,and_false,false_and,and_self,or_self,if_true,if_false,ite_true,ite_false,not_true_eq_false,not_false_eq_true,b5,b6,b7,b8,c1,c2,b9,c0,c3,c4,decide_true,decide_false,reduceCtorEq,ne_eq];first | done | rfl) | (simp_all [DV.norm,DV.norms,bG,aH,jD];first | done | omega))
  | (have hlt:=oT ‹decide ((i:Int) < (s.size:Int))=true›;refine ⟨_,_,?_,aW.pick_get _ [0,3],i + 1,_,rfl,⟨aL aI aI,by omega,fH hall VW⟩,rfl,rfl⟩;omega)
  | (refine dG ?_;have hx:=gC (n:=s.size) VX hi hall;first | (simp_all only [jD,dT,dF,gt_iff_lt,ge_iff_le,b0,b1,b2,b3,b4,true_or,or_true,false_or,or_false,true_and,and_true,and_false,false_and,and_self,or_self,if_true,if_false,ite_true,ite_false,not_true_eq_false,not_false_eq_true,b5,b6,b7,b8,c1,c2,b9,c0,c3,c4,decide_true,decide_false,reduceCtorEq,ne_eq];first | done | rfl) | (simp_all [DV.norm,DV.norms,bG,aH,jD];first | done | omega))
theorem MJ (s:ByteArray) :
  bY Tryz.prog 165 [sv s] (bv (fN s.size (DN s) && decide (s≠⟨#[]⟩))):=by
 refine aB.assume rfl fun hok _=>?_
 have hlen:=wG (hok (sv s) eS)
 unfold maxLen at hlen
 refine of_body Tryz.func165 rfl rfl (nB rfl) ?_
 rw [Tryz.ntmps165]
 repeat' (first | ((with_reducible refine kw ?_);first | refine Wg ?_ | refine W0 ?_ | refine W6 ?_ | refine bJ ?_ | refine eT ?_ | refine gQ ?_ | refine K2 ?_ | refine P9 ?_) | refine GX ?_ | (refine bW (fun hb=>?_) (fun hb=>?_) <;> rw [hb]) | refine GA ?_ | refine GG ?_ | (refine cJ (fun hb=>?_) (fun hb=>?_) <;> try rw [hb]) | ((with_reducible refine kf ?_);refine aP 0 Tryz.results165 rfl rfl rfl ?_) | refine GR ?_ | ((with_reducible refine kr ?_);refine aG rfl ?_) | fail)
 refine cF [0,5,6] rfl ?_
 refine i2 (n:=_) (fun n e σ=>∃ (i:Nat) (m:Int),n=s.size - i∧(m=i∧i≤s.size∧fN i (DN s)=true)∧e=[(0,_),(5,_),(6,iv m)]∧σ=_) ⟨0,0,rfl,⟨rfl,Nat.zero_le _,rfl⟩,rfl,rfl⟩ ?_
 rintro n e σ ⟨i,m,rfl,⟨rfl,hi,hall⟩,rfl,rfl⟩
 repeat' (first | ((with_reducible refine kw ?_);first | refine Wg ?_ | refine W0 ?_ | refine W6 ?_ | refine bJ ?_ | (refine aJ ?_;first | refine tD (FK _) ?_ | refine tD (IY _) ?_) | refine eT ?_ | refine gQ ?_ | refine K2 ?_ | refine P9 ?_) | refine GX ?_ | (refine bW (fun hb=>?_) (fun hb=>?_) <;> rw [hb]) | refine GA ?_ | refine GG ?_ | (refine cJ (fun hb=>?_) (fun hb=>?_) <;> try rw [hb]) | ((with_reducible refine kf ?_);refine aP 0 Tryz.results165 rfl rfl rfl ?_) | refine GR ?_ | ((with_reducible refine kr ?_);refine aG rfl ?_) | fail)
 all_goals first
  | (refine dG ?_;have hx:=eD (n:=s.size) (p:=DN s) (i:=i) VY VW;first | (simp_all only [dT,dF,gt_iff_lt,ge_iff_le,b0,b1,b2,b3,b4,true_or,or_true,false_or,or_false,true_and,and_true,and_false,false_and,and_self,or_self,if_true,if_false,ite_true,ite_false,not_true_eq_false,not_false_eq_true,b5,b6,b7,b8,c1,c2,b9,c0,c3,c4,decide_true,decide_false,reduceCtorEq,ne_eq];first | done | rfl) | (simp_all [DV.norm,DV.norms,bG,aH];first | done | omega))
  | (have hlt:=oT ‹decide ((i:Int) < (s.size:Int))=true›;refine ⟨_,_,?_,aW.pick_get _ [0,5,6],i + 1,_,rfl,⟨aL aI aI,by omega,fH hall VW⟩,rfl,rfl⟩;omega)
  | (refine dG ?_;have hx:=gC (n:=s.size) VX hi hall;first | (simp_all only [dT,dF,gt_iff_lt,ge_iff_le,b0,b1,b2,b3,b4,true_or,or_true,false_or,or_false,true_and,and_true,and_false,false_and,and_self,or_self,if_true,if_false,ite_true,ite_false,not_true_eq_false,not_false_eq_true,b5,b6,b7,b8,c1,c2,b9,c0,c3,c4,decide_true,decide_false,reduceCtorEq,ne_eq];first | done | rfl) | (simp_all [DV.norm,DV.norms,bG,aH];first | done | omega))
end Go.Ab
namespace Go.Ab
variable {P:Program} {nt:Nat} {K:aW→aA→Prop} {e:aW} {σ:aA} {ops:Array Oper} {seen:List Nat} {lt:List dQ}
theorem kN {n:Nat} {o:Oper} {os:List Oper} (k:bO P nt ops K seen lt ((n,o)::lD (n + 1) os) e σ):bO P nt ops K seen lt (lD n (o::os)) e σ:=k
theorem kN0 {n:Nat} (k:bO P nt ops K seen lt [] e σ):bO P nt ops K seen lt (lD n []) e σ:=k
def mI:List Nat→List Oper→List (Nat × Oper)
 | [],_=>[]
 | i::π,l=>match l[i]? with
  | some o=>(i,o)::mI π l
  | none=>mI π l
theorem kP {i:Nat} {π:List Nat} {l:List Oper} {o:Oper} (h:l[i]? = some o) (k:bO P nt ops K seen lt ((i,o)::mI π l) e σ):bO P nt ops K seen lt (mI (i::π) l) e σ:=by
 unfold mI;rw [h];exact k
theorem kQ {i:Nat} {π:List Nat} {l:List Oper} (k:bO P nt ops K seen lt (mI (i::π) l) e σ):bO P nt ops K seen lt (mI (i::π) l) e σ:=k
theorem T4 {l:List Oper} (k:bO P nt ops K seen lt [] e σ):bO P nt ops K seen lt (mI [] l) e σ:=k
theorem uX {l:List Oper}:∀ {π:List Nat} {p:Nat × Oper},p ∈ mI π l→l[p.1]? = some p.2
 | [],_,h=>by simp [mI] at h
 | i::π,p,h=>by
  unfold mI at h
  cases ho:l[i]? with
  | none=>rw [ho] at h;exact uX h
  | some o =>
   rw [ho] at h
   rcases List.mem_cons.1 h with rfl | h
   ·exact ho
   ·exact uX h
theorem z2 {l:List Oper}:∀ {π:List Nat},(∀ i ∈ π,i < l.length)→(mI π l).map (·.1)=π
 | [],_=>rfl
 | i::π,h=>by
  unfold mI
  rw [List.getElem?_eq_getElem (h i (by simp))]
  simp only [List.map_cons]
  rw [z2 fun j hj=>h j (by simp [hj])]
theorem p6 {id:Nat} {l:List Oper} {Q:Exit→aW→aA→Prop} (π:List Nat) (hm:P.follows .mixedOrders=true) (hops:l.all (i0 nt)=true) (hl:(π.all fun i=>Nat.blt i l.length)=true) (hc:(List.range l.length).all (fV π)=true) (hn:lC π=true)
  (hp:qL l.toArray [] [] (mI π l)=true) (h:bO P nt l.toArray (Q .normal) [] [] (mI π l) e σ):AC P nt (.region id l.toArray true) e σ Q:=by
 have hf:(mI π l).map (·.1)=π:=z2 fun i hi=>by simpa using List.all_eq_true.1 hl i hi
 have h':=h.h (fun p hp=>by have:=uX hp;simpa using this) hp
 rw [hf] at h'
 exact ⟨bU.drawn π hm (by simpa using hops) (by simpa using hc) hn h'⟩
theorem xP {s:aA} {id:Nat} (h:Nat.blt id σ.length=true):(σ++s).look id=σ.look id:=by
 have:id < σ.length:=by simpa using h
 unfold aA.look;rw [List.getElem?_append_left this]
theorem CI {rest:List (Nat × Oper)} {i:Nat} {dst:Option Nat} {ty:TypeId} {pos:String} {after:Array Edge} {gd:Option (Nat × Bool)} {f:Operand} {args:Array Operand} {ts:Array TypeId} {g:FuncId} {first cap xs ys:List DV} {x:DV} {s:aA} (hw:aT ops ⟨dst,.call { callee := .value f,args,argTypes:=ts },ty,pos,after,gd⟩ e=some true)
  (hf:e.ev f=some (.fn (.func g) first cap)) (hx:args.toList.mapM e.ev=some xs) (hy:DV.norms (first++xs++cap)=ys) (hok:PC lt (bN ⟨dst,.call { callee := .value f,args,argTypes:=ts },ty,pos,after,gd⟩)=true) (hl:j9 ops [i] (rest.map (·.1))=true)
  (hc:aB P g ys [] fun r σ'=>r=x∧σ'=s) (ha:DV.unders 0 ys=true) (hb:(lt.all fun a=>a.R.all fun id=>Nat.blt id σ.length)=true)
  (k:bO P nt ops K (i::seen) lt rest (e.put dst (x.ren (bL [] σ.length))) (σ++s.map (Option.map (aU.ren (bL [] σ.length))))):bR P nt ops K seen lt ((i,⟨dst,.call { callee := .value f,args,argTypes:=ts },ty,pos,after,gd⟩)::rest) e σ:=by
 refine GW (fun r σ'=>r=x.ren (bL [] σ.length)∧σ'=σ++s.map (Option.map (aU.ren (bL [] σ.length)))) hw hf hx hy hok hl (aB.shiftR hc ha ⟨rfl,rfl⟩) ?_ ?_
 ·rintro _ _ ⟨_,rfl⟩ a h1 _ id h2
  exact xP (List.all_eq_true.1 (List.all_eq_true.1 hb a h1) id h2)
 ·rintro _ _ ⟨rfl,rfl⟩;exact k
end Go.Ab
namespace Go.Ab
open Go Go.Ab.Tryz Go.Proofs
theorem sF (s old:ByteArray) (h:1≤old.size):Lib.countB s old≤s.size:=Lib.countB_le old h s.size s (Nat.le_refl _)
theorem t6 (old new:List UInt8):∀ (k:Nat) (s:List UInt8),(Lib.replaceK old new k s).length≤s.length + k * new.length
 | 0,s=>by simp [Lib.replaceK]
 | k + 1,s=>by
  rw [Lib.replaceK]
  split
  ·omega
  ·have:=t6 old new k (s.drop ((Lib.index s old).toNat + old.length))
   simp only [List.length_append,List.length_take,List.length_drop] at this ⊢
   rw [Nat.add_mul,Nat.one_mul]
   omega
theorem AA (s old new:ByteArray) (h:1≤old.size):(pV s old new).size≤s.size + s.size * new.size:=by
 have hc:=sF s old h
 unfold pV Lib.replaceAll Lib.replace
 show (List.toArray _).size≤_
 rw [List.size_toArray]
 split
 ·show s.data.toList.length≤_
  rw [Array.length_toList]
  show s.size≤_
  omega
 ·have h1:=t6 old.data.toList new.data.toList (Lib.replaceNum s.data.toList old.data.toList (-1)) s.data.toList
  have h2:Lib.replaceNum s.data.toList old.data.toList (-1)=Lib.countB s old:=by simp [Lib.replaceNum,Lib.countB]
  rw [h2] at h1 ⊢
  have h3:Lib.countB s old * new.data.toList.length≤s.size * new.data.toList.length:=Nat.mul_le_mul_right _ hc
  have h4:s.data.toList.length=s.size:=by rw [Array.length_toList];rfl
  have h5:new.data.toList.length=new.size:=by rw [Array.length_toList];rfl
  have h6:s.size * new.data.toList.length=s.size * new.size:=by rw [h5]
  omega
abbrev NU:ByteArray:=⟨#[92]⟩
abbrev yC:ByteArray:=⟨#[92,92]⟩
abbrev QJ:ByteArray:=⟨#[34]⟩
abbrev SQ:ByteArray:=⟨#[92,34]⟩
def FA (t:ByteArray):ByteArray:=pV (pV t NU yC) QJ SQ
def HE (t:ByteArray):ByteArray:=QJ++FA t++QJ
theorem w8 {t:ByteArray} (h:t.size≤60):(pV t NU yC).size≤180:=by
 have h2:yC.size=2:=rfl
 have:=AA t NU yC cN;rw [h2] at this;omega
theorem G2 {t:ByteArray} (h:t.size≤60):(FA t).size≤540:=by
 have h2:SQ.size=2:=rfl
 have:=AA (pV t NU yC) QJ SQ cN;rw [h2] at this
 have:=w8 h
 show (pV _ _ _).size≤_;omega
theorem OT (t:ByteArray) (h:bP t=true):bY Tryz.prog 116 [sv t,sv NU,sv yC] (sv (pV t NU yC)):=by
 have h60:t.size≤60:=by unfold bP at h;simp at h;exact h.2
 have hc:=sF t NU cN
 have h2:yC.size=2:=rfl
 have:=w8 h60
 exact r7 t NU yC cN aI (by rw [h2];omega) (by unfold maxLen;omega)
theorem OU (t:ByteArray) (h:bP t=true):bY Tryz.prog 116 [sv (pV t NU yC),sv QJ,sv SQ] (sv (FA t)):=by
 have h60:t.size≤60:=by unfold bP at h;simp at h;exact h.2
 have h1:=w8 h60
 have hc:=sF (pV t NU yC) QJ cN
 have h2:SQ.size=2:=rfl
 have h3:=G2 h60
 exact r7 _ QJ SQ cN aI (by rw [h2];omega) (by unfold maxLen;unfold FA at h3;omega)
theorem MQ (t:ByteArray) (hx:bP t=true):bY Tryz.prog 108 [sv t] (.tup [sv (HE t),iv 0]):=by
 have h60:t.size≤60:=by unfold bP at hx;simp at hx;exact hx.2
 have he:=G2 h60
 have hq:(QJ++FA t).size≤541:=by rw [ByteArray.size_append];show 1 + _≤_;omega
 have hsq:(⟨#[34]⟩:ByteArray).size=1:=rfl
 have hc1:(⟨#[34]⟩:ByteArray).size + (FA t).size≤9223372036854775807:=by omega
 have hc2:((⟨#[34]⟩:ByteArray)++FA t).size + (⟨#[34]⟩:ByteArray).size≤9223372036854775807:=by rw [ByteArray.size_append];omega
 refine of_body Tryz.func108 rfl rfl (nB rfl) ?_
 rw [Tryz.ntmps108]
 repeat' (first | ((with_reducible refine kw ?_);first | refine W0 ?_ | refine WK ?_ | refine bJ ?_ | (refine aJ ?_;first | refine tD (hx ▸ zT t) ?_ | refine tD (OT t hx) ?_ | refine tD (OU t hx) ?_) | refine gQ ?_) | refine GA ?_ | refine GG ?_ | (refine cJ (fun hb=>?_) (fun hb=>?_) <;> try rw [hb]) | ((with_reducible refine kf ?_);refine aP 0 Tryz.results108 rfl rfl rfl ?_) | refine GR ?_ | ((with_reducible refine kr ?_);refine aG rfl ?_) | fail)
 all_goals first | (exfalso;exact absurd hb cN) | (refine dG ?_;rfl)
theorem JV (t:ByteArray) (hx:bP t=false):bY Tryz.prog 108 [sv t] (.tup [sv ⟨#[]⟩,iv 2]):=by
 refine of_body Tryz.func108 rfl rfl (nB rfl) ?_
 rw [Tryz.ntmps108]
 repeat' (first | ((with_reducible refine kw ?_);first | refine W0 ?_ | refine bJ ?_ | (refine aJ ?_;refine tD (hx ▸ zT t) ?_) | refine gQ ?_) | refine GA ?_ | refine GG ?_ | (refine cJ (fun hb=>?_) (fun hb=>?_) <;> try rw [hb]) | ((with_reducible refine kf ?_);refine aP 0 Tryz.results108 rfl rfl rfl ?_) | refine GR ?_ | ((with_reducible refine kr ?_);refine aG rfl ?_) | fail)
 all_goals first | (exfalso;exact absurd hb cN) | (refine dG ?_;rfl)
theorem JU (t:ByteArray):bY Tryz.prog 108 [sv t] (.tup [sv (if bP t=true then HE t else ⟨#[]⟩),iv (if bP t=true then 0 else 2)]):=by
 by_cases hx:bP t=true
 ·simp only [hx,if_true];exact MQ t hx
 ·have hx':bP t=false:=by simpa using hx
  simp only [hx',c3,if_false];exact JV t hx'
theorem xK (t:ByteArray) :
  bY Tryz.prog 131 [sv t] (bv (bP t)):=by
 refine of_body Tryz.func131 rfl rfl (nB rfl) ?_
 rw [Tryz.ntmps131]
 repeat' (first | ((with_reducible refine kw ?_);first | refine W0 ?_ | refine W6 ?_ | refine bJ ?_ | (refine aJ ?_;refine tD (JU t) ?_) | refine iZ ?_) | refine GA ?_ | refine GG ?_ | ((with_reducible refine kf ?_);refine aP 0 Tryz.results131 rfl rfl rfl ?_) | refine GR ?_ | ((with_reducible refine kr ?_);refine aG rfl ?_) | fail)
 all_goals (refine dG ?_;show bv _=bv _;cases h:bP t <;> simp)
theorem l7 (k n:Int) (s:ByteArray) :
  bY Tryz.prog 83 [.agg [iv k,iv n,sv s]] (bv (cQ k n s)):=by
 refine of_body Tryz.func83 rfl rfl (nB rfl) ?_
 rw [Tryz.ntmps83]
 repeat' (first | ((with_reducible refine kw ?_);first | refine Wg ?_ | refine W0 ?_ | refine W1 ?_ | refine W2 ?_ | refine W3 ?_ | refine W6 ?_ | refine W8 ?_ | refine bJ ?_ | (refine aJ ?_;refine tD (xK s) ?_) | refine eT ?_ | refine cW ?_ | refine eV ?_) | refine GX ?_ | (refine bW (fun hb=>?_) (fun hb=>?_) <;> rw [hb]) | refine GA ?_ | refine GG ?_ | (refine cJ (fun hb=>?_) (fun hb=>?_) <;> try rw [hb]) | ((with_reducible refine kf ?_);refine aP 0 Tryz.results83 rfl rfl rfl ?_) | refine GR ?_ | ((with_reducible refine kr ?_);refine aG rfl ?_) | fail)
 all_goals (refine dG ?_;first | (simp_all only [cQ,Bool.and_assoc,dT,dF,gt_iff_lt,ge_iff_le,b0,b1,b2,b3,b4,true_or,or_true,false_or,or_false,true_and,and_true,and_false,false_and,and_self,or_self,if_true,if_false,ite_true,ite_false,not_true_eq_false,not_false_eq_true,b5,b6,b7,b8,c1,c2,b9,c0,c3,c4,decide_true,decide_false,reduceCtorEq,ne_eq];first | done | rfl) | (simp_all [DV.norm,DV.norms,bG,aH,cQ,Bool.and_assoc];first | done | omega))
theorem yQ (k:Int) (t:ByteArray) :
  bY Tryz.prog 140 [.agg [iv k,sv t]] (bv (gW k t)):=by
 refine of_body Tryz.func140 rfl rfl (nB rfl) ?_
 rw [Tryz.ntmps140]
 repeat' (first | ((with_reducible refine kw ?_);first | refine W1 ?_ | refine W2 ?_ | refine W6 ?_ | refine bJ ?_ | (refine aJ ?_;refine tD (xK t) ?_) | refine cW ?_) | refine GA ?_ | refine GG ?_ | (refine cJ (fun hb=>?_) (fun hb=>?_) <;> try rw [hb]) | ((with_reducible refine kf ?_);refine aP 0 Tryz.results140 rfl rfl rfl ?_) | refine GR ?_ | ((with_reducible refine kr ?_);refine aG rfl ?_) | fail)
 all_goals (refine dG ?_;first | (simp_all only [gW,dT,dF,gt_iff_lt,ge_iff_le,b0,b1,b2,b3,b4,true_or,or_true,false_or,or_false,true_and,and_true,and_false,false_and,and_self,or_self,if_true,if_false,ite_true,ite_false,not_true_eq_false,not_false_eq_true,b5,b6,b7,b8,c1,c2,b9,c0,c3,c4,decide_true,decide_false,reduceCtorEq,ne_eq];first | done | rfl) | (simp_all [DV.norm,DV.norms,bG,aH,gW];first | done | omega))
theorem PV {s:ByteArray}:decide (s≠⟨#[]⟩)=decide (1≤s.size):=by
 rw [decide_eq_decide]
 constructor
 ·intro h
  rcases Nat.eq_zero_or_pos s.size with h0 | h0
  ·exfalso;apply h
   have:=ByteArray.size_eq_zero_iff.1 h0
   rw [this];rfl
  ·exact h0
 ·intro h e;subst e;exact absurd h cN
theorem FG (s:ByteArray) :
  bY Tryz.prog 123 [sv s] (bv (jD s)):=by
 refine of_body Tryz.func123 rfl rfl (nB rfl) ?_
 rw [Tryz.ntmps123]
 repeat' (first | ((with_reducible refine kw ?_);first | refine Wg ?_ | refine W0 ?_ | refine W6 ?_ | refine bJ ?_ | (refine aJ ?_;first | refine tD (MJ s) ?_ | refine tD (FJ s) ?_) | refine eT ?_ | refine gQ ?_ | refine K2 ?_) | refine GX ?_ | (refine bW (fun hb=>?_) (fun hb=>?_) <;> rw [hb]) | refine GA ?_ | refine GG ?_ | ((with_reducible refine kf ?_);refine aP 0 Tryz.results123 rfl rfl rfl ?_) | refine GR ?_ | ((with_reducible refine kr ?_);refine aG rfl ?_) | fail)
 all_goals (refine dG ?_;have h0:decide (s≠⟨#[]⟩)=decide (1≤s.size):=PV;generalize decide (s≠⟨#[]⟩)=x at *;subst h0;unfold jD;generalize rE s=w at *;generalize fN s.size (DN s)=q at *;have hd:decide ((s.size:Int)≤12)=decide (s.size≤12):=(by simp only [decide_eq_decide];omega);generalize decide ((s.size:Int)≤12)=u at *;subst hd;generalize decide (s.size≤12)=u at *;generalize decide (1≤s.size)=v at *;cases w <;> cases q <;> cases u <;> cases v <;> first | rfl | (exfalso;simp_all;done))
theorem KJ (op k n:Int) (s:ByteArray) (h:(op=5∨op=6)∧cQ k n s=true) :
  bY Tryz.prog 243 [iv op,.agg [iv k,iv n,sv s]] (.tup [(eN op ⟨k,n,s⟩).1.dv,(eN op ⟨k,n,s⟩).2.dv,iv 0]):=by
 have hU:=KI op k n s
 generalize eN op ⟨k,n,s⟩=r at hU ⊢
 obtain ⟨⟨k1,n1,s1⟩,⟨k2,t2⟩⟩:=r
 refine of_body Tryz.func243 rfl rfl (nB rfl) ?_
 rw [Tryz.ntmps243]
 repeat' (first | ((with_reducible refine kw ?_);first | refine Wg ?_ | refine W0 ?_ | refine W3 ?_ | refine W6 ?_ | refine bJ ?_ | (refine aJ ?_;first | refine tD (h.2 ▸ l7 k n s) ?_ | refine tD hU ?_) | (refine aE ?_;refine p5 ?_) | refine eT ?_ | refine gQ ?_ | refine iZ ?_ | refine cW ?_ | refine dH ?_ | refine eV ?_) | refine GX ?_ | (refine bW (fun hb=>?_) (fun hb=>?_) <;> rw [hb]) | refine GN ?_ | ((with_reducible refine kd ?_);first | refine D3 ?_ | refine iY ?_ | (refine aV ?_;refine P5 ?_)) | refine GA ?_ | refine GG ?_ | (refine cJ (fun hb=>?_) (fun hb=>?_) <;> try rw [hb]) | ((with_reducible refine kf ?_);refine aP 0 Tryz.results243 rfl rfl rfl ?_) | refine GR ?_ | ((with_reducible refine kr ?_);refine aG rfl ?_) | fail)
 all_goals first | (refine dG ?_;rfl) | (exfalso;rcases h with ⟨h1 | h1,h2⟩ <;> subst h1 <;> simp_all;done) | skip
abbrev Gd.dv (g:Gd):DV := .agg [iv g.fr,iv g.to,iv g.at',iv g.slot]
abbrev Fc.dv (f:Fc):DV := .agg [sv f.name,iv f.params,iv f.slots,lv (f.code.map In.enc),lv (f.guards.map Gd.enc)]
theorem XK (l:List Int) (g:FuncId) (first cap:List DV) (p:Int→Bool) (σ:aA) (hf:∀ i:Nat,i < l.length→aB Tryz.prog g (first++[iv (aC l (i:Int))]++cap) σ (fun r σ'=>r=bv (p (aC l (i:Int)))∧σ'=σ)) :
  aB Tryz.prog 204 [lv (l.map fun n=>[di n]),.fn (.func g) first cap] σ (fun r σ'=>r=iv (j8 p l)∧σ'=σ):=by
 refine aB.closed rfl fun hu _=>?_
 refine aB.assume rfl fun hok _=>?_
 have hlen:=dK (hok (lv (l.map fun n=>[di n])) eS)
 simp only [List.length_map] at hlen
 refine of_body Tryz.func204 rfl rfl (nB rfl) ?_
 rw [Tryz.ntmps204]
 repeat' (first | ((with_reducible refine kw ?_);first | refine W0 ?_ | refine W2 ?_ | refine W6 ?_ | refine bJ ?_ | refine wR ?_ | refine gZ ?_) | refine GA ?_ | refine GG ?_ | (refine cJ (fun hb=>?_) (fun hb=>?_) <;> try rw [hb]) | ((with_reducible refine kf ?_);refine aP 0 Tryz.results204 rfl rfl rfl ?_) | refine GR ?_ | fail)
 refine cF [0,1,7,8] rfl ?_
 refine i2 (n:=_) (fun n e σ=>∃ (i:Nat) (m:Int),n=l.length - i∧(m=i∧i≤l.length∧(l.take i).any p=false)∧e=[(0,_),(1,_),(7,_),(8,iv m)]∧σ=_) ⟨0,0,rfl,⟨rfl,Nat.zero_le _,rfl⟩,rfl,rfl⟩ ?_
 rintro n e σ ⟨i,m,rfl,⟨rfl,hi,hall⟩,rfl,rfl⟩
 repeat' (first | ((with_reducible refine kw ?_);first | refine W0 ?_ | refine W2 ?_ | refine W6 ?_ | refine bJ ?_ | (refine aJ ?_;refine rO rfl rfl rfl (aB.ret (hf i VU) ?_)) | refine wR ?_ | refine gZ ?_) | refine GA ?_ | refine GG ?_ | (refine cJ (fun hb=>?_) (fun hb=>?_) <;> try rw [hb]) | ((with_reducible refine kf ?_);refine aP σ.length Tryz.results204 rfl lU hu ?_) | refine GR ?_ | ((with_reducible refine kr ?_);refine bD l6 rfl ⟨?_,rfl⟩) | fail)
 all_goals first
  | (have hlt:=oT ‹decide ((i:Int) < (l.length:Int))=true›;refine dG ?_;show iv _=iv _;rw [m3 (p:=p) aI hall ET])
  | (have hlt:=oT ‹decide ((i:Int) < (l.length:Int))=true›;refine ⟨_,_,?_,aW.pick_get _ [0,1,7,8],i + 1,_,rfl,⟨aL aI aI,by omega,mU aI hall ET⟩,rfl,rfl⟩;omega)
  | (have hge:=oF ‹decide ((i:Int) < (l.length:Int))=false›;refine dG ?_;show iv _=iv _;rw [iN (o3 aI hall)])
theorem TY (l:List Int) (g:FuncId) (first cap:List DV) (p:Int→Bool) (σ:aA) (hf:∀ i:Nat,i < l.length→aB Tryz.prog g (first++[iv (aC l (i:Int))]++cap) σ (fun r σ'=>r=bv (p (aC l (i:Int)))∧σ'=σ)) :
  aB Tryz.prog 169 [lv (l.map fun n=>[di n]),.fn (.func g) first cap] σ (fun r σ'=>r=bv (l.any p)∧σ'=σ):=by
 refine aB.closed rfl fun hu _=>?_
 refine of_body Tryz.func169 rfl rfl (nB rfl) ?_
 rw [Tryz.ntmps169]
 repeat' (first | ((with_reducible refine kw ?_);first | refine W0 ?_ | refine W6 ?_ | refine bJ ?_ | (refine aJ ?_;refine bB rfl rfl rfl rfl (aB.ret (XK l g first cap p σ hf) ?_))) | refine GA ?_ | refine GG ?_ | ((with_reducible refine kf ?_);refine aP σ.length Tryz.results169 rfl lU hu ?_) | refine GR ?_ | ((with_reducible refine kr ?_);refine bD l6 rfl ⟨?_,rfl⟩) | fail)
 all_goals (refine dG ?_;show bv _=bv _;rw [← oD (p:=p) (l:=l)])
theorem T0 (l:List Gd) (g:FuncId) (first cap:List DV) (p:Gd→Bool) (σ:aA) (hf:∀ i:Nat,i < l.length→aB Tryz.prog g (first++[Gd.dv (aC l (i:Int))]++cap) σ (fun r σ'=>r=bv (p (aC l (i:Int)))∧σ'=σ)) :
  aB Tryz.prog 173 [lv (l.map Gd.enc),.fn (.func g) first cap] σ (fun r σ'=>r=iv (j8 p l)∧σ'=σ):=by
 refine aB.closed rfl fun hu _=>?_
 refine aB.assume rfl fun hok _=>?_
 have hlen:=dK (hok (lv (l.map Gd.enc)) eS)
 simp only [List.length_map] at hlen
 refine of_body Tryz.func173 rfl rfl (nB rfl) ?_
 rw [Tryz.ntmps173]
 repeat' (first | ((with_reducible refine kw ?_);first | refine W0 ?_ | refine W3 ?_ | refine W6 ?_ | refine bJ ?_ | refine wR ?_ | refine gZ ?_) | refine GA ?_ | refine GG ?_ | (refine cJ (fun hb=>?_) (fun hb=>?_) <;> try rw [hb]) | ((with_reducible refine kf ?_);refine aP 0 Tryz.results173 rfl rfl rfl ?_) | refine GR ?_ | fail)
 refine cF [0,1,7,8] rfl ?_
 refine i2 (n:=_) (fun n e σ=>∃ (i:Nat) (m:Int),n=l.length - i∧(m=i∧i≤l.length∧(l.take i).any p=false)∧e=[(0,_),(1,_),(7,_),(8,iv m)]∧σ=_) ⟨0,0,rfl,⟨rfl,Nat.zero_le _,rfl⟩,rfl,rfl⟩ ?_
 rintro n e σ ⟨i,m,rfl,⟨rfl,hi,hall⟩,rfl,rfl⟩
 repeat' (first | ((with_reducible refine kw ?_);first | refine W0 ?_ | refine W3 ?_ | refine W6 ?_ | refine bJ ?_ | (refine aJ ?_;refine rO rfl rfl rfl (aB.ret (hf i VU) ?_)) | refine wR ?_ | refine gZ ?_) | refine GA ?_ | refine GG ?_ | (refine cJ (fun hb=>?_) (fun hb=>?_) <;> try rw [hb]) | ((with_reducible refine kf ?_);refine aP σ.length Tryz.results173 rfl lU hu ?_) | refine GR ?_ | ((with_reducible refine kr ?_);refine bD l6 rfl ⟨?_,rfl⟩) | fail)
 all_goals first
  | (have hlt:=oT ‹decide ((i:Int) < (l.length:Int))=true›;refine dG ?_;show iv _=iv _;rw [m3 (p:=p) aI hall ET])
  | (have hlt:=oT ‹decide ((i:Int) < (l.length:Int))=true›;refine ⟨_,_,?_,aW.pick_get _ [0,1,7,8],i + 1,_,rfl,⟨aL aI aI,by omega,mU aI hall ET⟩,rfl,rfl⟩;omega)
  | (have hge:=oF ‹decide ((i:Int) < (l.length:Int))=false›;refine dG ?_;show iv _=iv _;rw [iN (o3 aI hall)])
theorem XI (l:List Gd) (g:FuncId) (first cap:List DV) (p:Gd→Bool) (σ:aA) (hf:∀ i:Nat,i < l.length→aB Tryz.prog g (first++[Gd.dv (aC l (i:Int))]++cap) σ (fun r σ'=>r=bv (p (aC l (i:Int)))∧σ'=σ)) :
  aB Tryz.prog 127 [lv (l.map Gd.enc),.fn (.func g) first cap] σ (fun r σ'=>r=bv (l.any p)∧σ'=σ):=by
 refine aB.closed rfl fun hu _=>?_
 refine of_body Tryz.func127 rfl rfl (nB rfl) ?_
 rw [Tryz.ntmps127]
 repeat' (first | ((with_reducible refine kw ?_);first | refine W0 ?_ | refine W6 ?_ | refine bJ ?_ | (refine aJ ?_;refine bB rfl rfl rfl rfl (aB.ret (T0 l g first cap p σ hf) ?_))) | refine GA ?_ | refine GG ?_ | ((with_reducible refine kf ?_);refine aP σ.length Tryz.results127 rfl lU hu ?_) | refine GR ?_ | ((with_reducible refine kr ?_);refine bD l6 rfl ⟨?_,rfl⟩) | fail)
 all_goals (refine dG ?_;show bv _=bv _;rw [← oD (p:=p) (l:=l)])
theorem XL (l:List Va) (g:FuncId) (first cap:List DV) (p:Va→Bool) (σ:aA) (hf:∀ i:Nat,i < l.length→aB Tryz.prog g (first++[Va.dv (aC l (i:Int))]++cap) σ (fun r σ'=>r=bv (p (aC l (i:Int)))∧σ'=σ)) :
  aB Tryz.prog 130 [lv (l.map Va.enc),.fn (.func g) first cap] σ (fun r σ'=>r=iv (j8 p l)∧σ'=σ):=by
 refine aB.closed rfl fun hu _=>?_
 refine aB.assume rfl fun hok _=>?_
 have hlen:=dK (hok (lv (l.map Va.enc)) eS)
 simp only [List.length_map] at hlen
 refine of_body Tryz.func130 rfl rfl (nB rfl) ?_
 rw [Tryz.ntmps130]
 repeat' (first | ((with_reducible refine kw ?_);first | refine W0 ?_ | refine W3 ?_ | refine W6 ?_ | refine bJ ?_ | refine wR ?_ | refine gZ ?_) | refine GA ?_ | refine GG ?_ | (refine cJ (fun hb=>?_) (fun hb=>?_) <;> try rw [hb]) | ((with_reducible refine kf ?_);refine aP 0 Tryz.results130 rfl rfl rfl ?_) | refine GR ?_ | fail)
 refine cF [0,1,7,8] rfl ?_
 refine i2 (n:=_) (fun n e σ=>∃ (i:Nat) (m:Int),n=l.length - i∧(m=i∧i≤l.length∧(l.take i).any p=false)∧e=[(0,_),(1,_),(7,_),(8,iv m)]∧σ=_) ⟨0,0,rfl,⟨rfl,Nat.zero_le _,rfl⟩,rfl,rfl⟩ ?_
 rintro n e σ ⟨i,m,rfl,⟨rfl,hi,hall⟩,rfl,rfl⟩
 repeat' (first | ((with_reducible refine kw ?_);first | refine W0 ?_ | refine W3 ?_ | refine W6 ?_ | refine bJ ?_ | (refine aJ ?_;refine rO rfl rfl rfl (aB.ret (hf i VU) ?_)) | refine wR ?_ | refine gZ ?_) | refine GA ?_ | refine GG ?_ | (refine cJ (fun hb=>?_) (fun hb=>?_) <;> try rw [hb]) | ((with_reducible refine kf ?_);refine aP σ.length Tryz.results130 rfl lU hu ?_) | refine GR ?_ | ((with_reducible refine kr ?_);refine bD l6 rfl ⟨?_,rfl⟩) | fail)
 all_goals first
  | (have hlt:=oT ‹decide ((i:Int) < (l.length:Int))=true›;refine dG ?_;show iv _=iv _;rw [m3 (p:=p) aI hall ET])
  | (have hlt:=oT ‹decide ((i:Int) < (l.length:Int))=true›;refine ⟨_,_,?_,aW.pick_get _ [0,1,7,8],i + 1,_,rfl,⟨aL aI aI,by omega,mU aI hall ET⟩,rfl,rfl⟩;omega)
  | (have hge:=oF ‹decide ((i:Int) < (l.length:Int))=false›;refine dG ?_;show iv _=iv _;rw [iN (o3 aI hall)])
theorem TZ (l:List Va) (g:FuncId) (first cap:List DV) (p:Va→Bool) (σ:aA) (hf:∀ i:Nat,i < l.length→aB Tryz.prog g (first++[Va.dv (aC l (i:Int))]++cap) σ (fun r σ'=>r=bv (p (aC l (i:Int)))∧σ'=σ)) :
  aB Tryz.prog 81 [lv (l.map Va.enc),.fn (.func g) first cap] σ (fun r σ'=>r=bv (l.any p)∧σ'=σ):=by
 refine aB.closed rfl fun hu _=>?_
 refine of_body Tryz.func81 rfl rfl (nB rfl) ?_
 rw [Tryz.ntmps81]
 repeat' (first | ((with_reducible refine kw ?_);first | refine W0 ?_ | refine W6 ?_ | refine bJ ?_ | (refine aJ ?_;refine bB rfl rfl rfl rfl (aB.ret (XL l g first cap p σ hf) ?_))) | refine GA ?_ | refine GG ?_ | ((with_reducible refine kf ?_);refine aP σ.length Tryz.results81 rfl lU hu ?_) | refine GR ?_ | ((with_reducible refine kr ?_);refine bD l6 rfl ⟨?_,rfl⟩) | fail)
 all_goals (refine dG ?_;show bv _=bv _;rw [← oD (p:=p) (l:=l)])
theorem XJ (l:List Fc) (g:FuncId) (first cap:List DV) (p:Fc→Bool) (σ:aA) (hf:∀ i:Nat,i < l.length→aB Tryz.prog g (first++[Fc.dv (aC l (i:Int))]++cap) σ (fun r σ'=>r=bv (p (aC l (i:Int)))∧σ'=σ)) :
  aB Tryz.prog 122 [lv (l.map Fc.enc),.fn (.func g) first cap] σ (fun r σ'=>r=iv (j8 p l)∧σ'=σ):=by
 refine aB.closed rfl fun hu _=>?_
 refine aB.assume rfl fun hok _=>?_
 have hlen:=dK (hok (lv (l.map Fc.enc)) eS)
 simp only [List.length_map] at hlen
 refine of_body Tryz.func122 rfl rfl (nB rfl) ?_
 rw [Tryz.ntmps122]
 repeat' (first | ((with_reducible refine kw ?_);first | refine W0 ?_ | refine W3 ?_ | refine W6 ?_ | refine bJ ?_ | refine wR ?_ | refine gZ ?_) | refine GA ?_ | refine GG ?_ | (refine cJ (fun hb=>?_) (fun hb=>?_) <;> try rw [hb]) | ((with_reducible refine kf ?_);refine aP 0 Tryz.results122 rfl rfl rfl ?_) | refine GR ?_ | fail)
 refine cF [0,1,7,8] rfl ?_
 refine i2 (n:=_) (fun n e σ=>∃ (i:Nat) (m:Int),n=l.length - i∧(m=i∧i≤l.length∧(l.take i).any p=false)∧e=[(0,_),(1,_),(7,_),(8,iv m)]∧σ=_) ⟨0,0,rfl,⟨rfl,Nat.zero_le _,rfl⟩,rfl,rfl⟩ ?_
 rintro n e σ ⟨i,m,rfl,⟨rfl,hi,hall⟩,rfl,rfl⟩
 repeat' (first | ((with_reducible refine kw ?_);first | refine W0 ?_ | refine W3 ?_ | refine W6 ?_ | refine bJ ?_ | (refine aJ ?_;refine rO rfl rfl rfl (aB.ret (hf i VU) ?_)) | refine wR ?_ | refine gZ ?_) | refine GA ?_ | refine GG ?_ | (refine cJ (fun hb=>?_) (fun hb=>?_) <;> try rw [hb]) | ((with_reducible refine kf ?_);refine aP σ.length Tryz.results122 rfl lU hu ?_) | refine GR ?_ | ((with_reducible refine kr ?_);refine bD l6 rfl ⟨?_,rfl⟩) | fail)
 all_goals first
  | (have hlt:=oT ‹decide ((i:Int) < (l.length:Int))=true›;refine dG ?_;show iv _=iv _;rw [m3 (p:=p) aI hall ET])
  | (have hlt:=oT ‹decide ((i:Int) < (l.length:Int))=true›;refine ⟨_,_,?_,aW.pick_get _ [0,1,7,8],i + 1,_,rfl,⟨aL aI aI,by omega,mU aI hall ET⟩,rfl,rfl⟩;omega)
  | (have hge:=oF ‹decide ((i:Int) < (l.length:Int))=false›;refine dG ?_;show iv _=iv _;rw [iN (o3 aI hall)])
theorem XH (l:List Fc) (g:FuncId) (first cap:List DV) (p:Fc→Bool) (σ:aA) (hf:∀ i:Nat,i < l.length→aB Tryz.prog g (first++[Fc.dv (aC l (i:Int))]++cap) σ (fun r σ'=>r=bv (p (aC l (i:Int)))∧σ'=σ)) :
  aB Tryz.prog 78 [lv (l.map Fc.enc),.fn (.func g) first cap] σ (fun r σ'=>r=bv (l.any p)∧σ'=σ):=by
 refine aB.closed rfl fun hu _=>?_
 refine of_body Tryz.func78 rfl rfl (nB rfl) ?_
 rw [Tryz.ntmps78]
 repeat' (first | ((with_reducible refine kw ?_);first | refine W0 ?_ | refine W6 ?_ | refine bJ ?_ | (refine aJ ?_;refine bB rfl rfl rfl rfl (aB.ret (XJ l g first cap p σ hf) ?_))) | refine GA ?_ | refine GG ?_ | ((with_reducible refine kf ?_);refine aP σ.length Tryz.results78 rfl lU hu ?_) | refine GR ?_ | ((with_reducible refine kr ?_);refine bD l6 rfl ⟨?_,rfl⟩) | fail)
 all_goals (refine dG ?_;show bv _=bv _;rw [← oD (p:=p) (l:=l)])
end Go.Ab
namespace Go.Ab
variable {P:Program} {σ:aA}
def jU {α:Type}:List (Int × α)→Int→Option α
 | [],_=>none
 | (k,x)::l,n=>if n=k then some x else jU l n
theorem tM {α β:Type} {f:α→β} {n:Int}:∀ {l:List (Int × α)},jU (l.map fun p=>(p.1,f p.2)) n=(jU l n).map f
 | []=>rfl
 | (k,x)::l=>by
  simp only [List.map_cons,jU]
  split
  ·rfl
  ·exact tM
abbrev v7 {α:Type} (l:List (Int × α)):List (Value × α):=l.map fun p=>(.int .i64 p.1,p.2)
theorem uP {α:Type} {k0:IntKind} {n:Int}:∀ (l:List (Int × α)) (i:Nat),∃ r,mE (.int k0) (.int .i64 n) (v7 l) i=some r∧(match jU l n with | none=>r=none | some d=>∃ j k,r=some (i + j)∧l[j]? = some (k,d))
 | [],i=>⟨none,rfl,rfl⟩
 | (k,x)::l,i=>by
  by_cases h:n=k
  ·subst h
   refine ⟨some i,by simp [mE,Instr.sameNow],?_⟩
   simp only [jU,if_true]
   exact ⟨0,n,by simp,rfl⟩
  ·obtain ⟨r,h1,h2⟩:=uP (k0:=k0) (n:=n) l (i + 1)
   refine ⟨r,?_,?_⟩
   ·simp only [v7,List.map_cons,mE,Instr.sameNow,if_true]
    rw [show (n == k)=false by simpa using h]
    exact h1
   ·simp only [jU,if_neg h]
    cases hg:jU l n with
    | none=>rw [hg] at h2;exact h2
    | some d =>
     rw [hg] at h2
     obtain ⟨j,k',e1,e2⟩:=h2
     exact ⟨j + 1,k',by rw [e1];congr 1;omega,by simpa using e2⟩
theorem zV {k0:IntKind} {vt:TypeId} {n:Int} {id:Nat} {z:DV} {l:List (Int × DV)} (hz:iT P vt=some z) (hl:σ.look id=some (.map (v7 l))) :
  lY P (.int k0) vt (.int .i64 n) σ (.mp id)=some ((jU l n).getD z,(jU l n).isSome):=by
 obtain ⟨r,h1,h2⟩:=uP (k0:=k0) (n:=n) l 0
 simp only [lY,hl,h1]
 cases hg:jU l n with
 | none=>rw [hg] at h2;subst h2;simp [hz]
 | some d =>
  rw [hg] at h2
  obtain ⟨j,k',e1,e2⟩:=h2
  subst e1
  simp [v7,List.getElem?_map,e2]
theorem JN {α:Type} {f:α→DV} {z:α} {k0:IntKind} {vt:TypeId} {n:Int} {id:Nat} {l:List (Int × α)} (hz:iT P vt=some (f z)) (hl:σ.look id=some (.map (v7 (l.map fun p=>(p.1,f p.2))))) :
  lY P (.int k0) vt (.int .i64 n) σ (.mp id)=some (f ((jU l n).getD z),(jU l n).isSome):=by
 rw [zV hz hl,tM]
 cases jU l n <;> rfl
end Go.Ab
namespace Go.Ab
open Go Go.Ab.Tryz Go.Proofs
structure Fo where
 name:ByteArray
 a:Int
 b:Int
 c:Int
 lo:Int
 hi:Int
 arms:Bool
 val:Bool
 goes:Bool
 may:Bool
 deriving Inhabited
abbrev Fo.dv (x:Fo):DV := .agg [sv x.name,iv x.a,iv x.b,iv x.c,iv x.lo,iv x.hi,bv x.arms,bv x.val,bv x.goes,bv x.may]
abbrev WA:Fo:=⟨⟨#[]⟩,0,0,0,0,0,false,false,false,false⟩
def o8:List (Int × Fo):=[(1,⟨⟨#[99,111,110,115,116]⟩,1,0,0,0,0,false,true,true,false⟩),(2,⟨⟨#[109,111,118,101]⟩,1,1,0,0,0,false,false,true,false⟩),(3,⟨⟨#[117,110,97,114,121]⟩,1,4,1,0,0,false,false,true,true⟩),(4,⟨⟨#[98,105,110,97,114,121]⟩,1,4,1,1,1,false,false,true,true⟩),(5,⟨⟨#[106,117,109,112]⟩,3,0,0,0,0,false,false,false,false⟩),(6,⟨⟨#[102,97,108,115,101]⟩,1,3,0,0,0,false,false,true,true⟩),(7,⟨⟨#[99,97,108,108]⟩,2,4,0,0,5,false,false,true,true⟩),(8,⟨⟨#[114,101,116,117,114,110]⟩,2,0,0,0,0,false,false,false,false⟩),(9,⟨⟨#[116,104,114,111,119]⟩,1,0,0,0,0,false,false,false,true⟩),(10,⟨⟨#[97,115,107]⟩,2,4,4,0,5,false,false,true,true⟩),(11,⟨⟨#[97,114,109]⟩,4,0,0,1,2,false,false,true,false⟩),(12,⟨⟨#[115,119,105,116,99,104]⟩,1,0,0,1,9223372036854775807,true,false,false,true⟩),(13,⟨⟨#[102,97,117,108,116]⟩,1,3,0,0,0,false,false,true,false⟩),(14,⟨⟨#[114,97,105,115,101]⟩,1,0,0,0,0,false,false,false,true⟩)]
def gS (op:Int):Fo:=(jU o8 op).getD WA
structure As where
 lo:Int
 hi:Int
 c:Int
 deriving Inhabited
abbrev As.dv (x:As):DV := .agg [iv x.lo,iv x.hi,iv x.c]
abbrev YY:As:=⟨0,0,0⟩
def sX:List (Int × As):=[(1,⟨0,0,0⟩),(2,⟨1,1,0⟩),(3,⟨1,1,0⟩),(4,⟨0,0,0⟩),(6,⟨1,1,0⟩),(7,⟨1,1,0⟩),(8,⟨1,1,2⟩),(9,⟨2,2,0⟩),(10,⟨1,1,0⟩),(11,⟨1,1,0⟩),(12,⟨1,1,0⟩),(13,⟨1,1,0⟩),(14,⟨1,1,0⟩),(15,⟨1,1,1⟩),(16,⟨0,1,1⟩),(17,⟨0,1,0⟩),(18,⟨0,0,0⟩),(19,⟨0,0,0⟩),(20,⟨1,1,0⟩),(21,⟨1,1,0⟩)]
def uJ (op:Int):As:=(jU sX op).getD YY
abbrev RI:List (Value × DV):=v7 (o8.map fun p=>(p.1,p.2.dv))
abbrev S3:List (Value × DV):=v7 (sX.map fun p=>(p.1,p.2.dv))
theorem CX:aB Tryz.prog 167 [] [] (fun r σ=>r = .mp 0∧σ=[some (.map RI)]):=by
 refine of_body Tryz.func167 rfl rfl (nB rfl) ?_
 rw [Tryz.ntmps167]
 repeat' (first | ((with_reducible refine kw ?_);first | refine W0 ?_ | refine bJ ?_ | refine HQ V1 rfl rfl rfl rfl rfl rfl rfl rfl ?_ | refine eV ?_ | refine VQ ?_) | refine GA ?_ | refine GG ?_ | ((with_reducible refine kf ?_);refine aP 1 Tryz.results167 rfl rfl rfl ?_) | refine GR ?_ | ((with_reducible refine kr ?_);refine t8 rfl ?_) | fail)
 exact ⟨rfl,rfl⟩
theorem OC:aB Tryz.prog 205 [] [] (fun r σ=>r = .mp 0∧σ=[some (.map S3)]):=by
 refine of_body Tryz.func205 rfl rfl (nB rfl) ?_
 rw [Tryz.ntmps205]
 repeat' (first | ((with_reducible refine kw ?_);first | refine W0 ?_ | refine bJ ?_ | refine HQ V1 rfl rfl rfl rfl rfl rfl rfl rfl ?_ | refine eV ?_ | refine VQ ?_) | refine GA ?_ | refine GG ?_ | ((with_reducible refine kf ?_);refine aP 1 Tryz.results205 rfl rfl rfl ?_) | refine GR ?_ | ((with_reducible refine kr ?_);refine t8 rfl ?_) | fail)
 exact ⟨rfl,rfl⟩
theorem OZ (op:Int) :
  bY Tryz.prog 126 [iv op] (bv (gS op).goes):=by
 refine of_body Tryz.func126 rfl rfl (nB rfl) ?_
 rw [Tryz.ntmps126]
 repeat' (first | ((with_reducible refine kw ?_);first | refine W0 ?_ | refine bJ ?_ | (refine aJ ?_;refine bB rfl rfl rfl rfl (aB.shiftR CX rfl ?_)) | (refine NN ?_;refine cK (GE (mi rfl) rfl rfl rfl (JN (z:=WA) (f:=Fo.dv) (l:=o8) rfl rfl)) rfl rfl ?_)) | refine GA ?_ | refine GG ?_ | ((with_reducible refine kf ?_);refine aP 0 Tryz.results126 rfl rfl rfl ?_) | refine GR ?_ | ((with_reducible refine kr ?_);refine aG rfl ?_) | ((with_reducible refine kw ?_);refine cK (eY rfl rfl) rfl rfl ?_) | fail)
 all_goals (refine dG ?_;rfl)
abbrev GV (fs:List Fc) (f:Fc):DV := .agg [lv (fs.map Fc.enc),sv f.name,iv f.params,iv f.slots,lv (f.code.map In.enc),lv (f.guards.map Gd.enc)]
def bI (n lo hi:Int):Bool:=decide (lo≤n) && decide (n≤hi)
def cP (f:Fc) (n what:Int):Bool :=
 if what=0 then decide (n=0) else if what=1 then bI n 0 (iA (f.slots - 1)) else if what=2 then bI n (-1) (iA (f.slots - 1))
 else if what=3 then bI n 0 (iA (f.code.length - 1)) else true
def nM (fs:List Fc) (n m:Int):Bool:=bI n 0 (iA (fs.length - 1)) && decide ((aC fs n).params=m)
def o9 (f:Fc) (g:Gd):Bool :=
 bI g.fr 0 (iA (f.code.length - 1)) && (bI g.to (iA (g.fr + 1)) f.code.length && (cP f g.at' 3 && (cP f g.slot 1 && cP f (iA (g.slot + 1)) 1)))
theorem oC (fs:List Fc) (f:Fc) (n what:Int) :
  bY Tryz.prog 168 [.agg [lv (fs.map Fc.enc),sv f.name,iv f.params,iv f.slots,lv (f.code.map In.enc),lv (f.guards.map Gd.enc)],iv n,iv what] (bv (cP f n what)):=by
 refine of_body Tryz.func168 rfl rfl (nB rfl) ?_
 rw [Tryz.ntmps168]
 repeat' (first | ((with_reducible refine kw ?_);first | refine W0 ?_ | refine W1 ?_ | refine W2 ?_ | refine W6 ?_ | refine bJ ?_ | (refine aJ ?_;refine tD (gP _ _ _) ?_) | refine gZ ?_ | refine cW ?_) | refine GA ?_ | refine GG ?_ | (refine cJ (fun hb=>?_) (fun hb=>?_) <;> try rw [hb]) | ((with_reducible refine kf ?_);refine aP 0 Tryz.results168 rfl rfl rfl ?_) | refine GR ?_ | ((with_reducible refine kr ?_);refine aG rfl ?_) | fail)
 all_goals (refine dG ?_;first | (simp_all only [cP,bI,List.length_map,dT,dF,gt_iff_lt,ge_iff_le,b0,b1,b2,b3,b4,true_or,or_true,false_or,or_false,true_and,and_true,and_false,false_and,and_self,or_self,if_true,if_false,ite_true,ite_false,not_true_eq_false,not_false_eq_true,b5,b6,b7,b8,c1,c2,b9,c0,c3,c4,decide_true,decide_false,reduceCtorEq,ne_eq];first | done | rfl) | (simp_all [DV.norm,DV.norms,bG,aH,cP,bI,List.length_map];first | done | omega))
end Go.Ab
