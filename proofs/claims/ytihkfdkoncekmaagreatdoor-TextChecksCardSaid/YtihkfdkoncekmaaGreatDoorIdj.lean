/- This text proves that every run of the interpreter over this program is a call of this program; it has no conditions. -/
import Derived.Ground.NamesProg
import Derived.Shelf.Strings.Repeat
import Derived.Shelf.Strings.IndexAnyAll
import Derived.Shelf.Strings.Search2
import Derived.Shelf.Abstract
import Derived.KernelRfl
import Derived.Test.YtihkfdkoncekmaaGreatDoorProg
import Derived.Test.YtihkfdkoncekmaaGreatDoorIdi
import Derived.Test.YtihkfdkoncekmaaGreatDoorIde
import Derived.Test.YtihkfdkoncekmaaGreatDoorIdg
import Derived.Test.YtihkfdkoncekmaaGreatDoorRows
import Derived.Test.YtihkfdkoncekmaaGreatDoorTie
import Derived.Test.YtihkfdkoncekmaaGreatDoorCards
import Derived.Laws.Externs
import Derived.ProofKit
import Derived.LaidMore
import Derived.OpenShut
import Derived.SevenTiedAt
import Derived.Stop.Joined
set_option linter.unusedSimpArgs false
set_option linter.unusedVariables false
namespace Go.Proofs.YtihkfdkoncekmaaGreatDoor
open Go.Shelf Go.RowKit
def Tryz.laysRepeat_ren:Go.Shelf.Ren:=⟨fun | 105=>171 | 212=>175 | 99=>99 | 165=>176 | 166=>177 | 170=>178 | 169=>179 | 263=>183 | 264=>184 | 206=>122 | 240=>185 | 241=>186 | 276=>188 | 277=>189 | n=>n,fun | 9=>9 | 3=>3 | 4=>4 | 20=>20 | 0=>0 | 46=>134 | 109=>202 | 5=>5 | 72=>206 | 76=>209 | 51=>198 | 146=>199 | 53=>214 | 148=>215 | 70=>204 | 37=>69 | 75=>208 | 127=>217 | 164=>218 | 80=>113 | n=>n,fun | n=>n⟩
theorem Tryz.laysRepeat:Go.Proofs.Lays.n105 Tryz.prog Tryz.laysRepeat_ren where
 mixed:=by kernel_rfl
 f99:=Tryz.func99.trans (congrArg some (by kernel_rfl))
 f105:=Tryz.func171.trans (congrArg some (by kernel_rfl))
 f165:=Tryz.func176.trans (congrArg some (by kernel_rfl))
 f166:=Tryz.func177.trans (congrArg some (by kernel_rfl))
 f169:=Tryz.func179.trans (congrArg some (by kernel_rfl))
 f170:=Tryz.func178.trans (congrArg some (by kernel_rfl))
 f206:=Tryz.func122.trans (congrArg some (by kernel_rfl))
 f212:=Tryz.func175.trans (congrArg some (by kernel_rfl))
 f240:=Tryz.func185.trans (congrArg some (by kernel_rfl))
 f241:=Tryz.func186.trans (congrArg some (by kernel_rfl))
 f263:=Tryz.func183.trans (congrArg some (by kernel_rfl))
 f264:=Tryz.func184.trans (congrArg some (by kernel_rfl))
 f276:=Tryz.func188.trans (congrArg some (by kernel_rfl))
 f277:=Tryz.func189.trans (congrArg some (by kernel_rfl))
 t0:=Tryz.underlying0
 a0:=Tryz.isAgg0
 z0:=Tryz.sizeOf0
 v0:=Tryz.zeroValue0
 t3:=Tryz.underlying3
 a3:=Tryz.isAgg3
 z3:=Tryz.sizeOf3
 v3:=Tryz.zeroValue3
 t4:=Tryz.underlying4
 a4:=Tryz.isAgg4
 z4:=Tryz.sizeOf4
 v4:=Tryz.zeroValue4
 t5:=Tryz.underlying5
 a5:=Tryz.isAgg5
 z5:=Tryz.sizeOf5
 v5:=Tryz.zeroValue5
 t9:=Tryz.underlying9
 a9:=Tryz.isAgg9
 z9:=Tryz.sizeOf9
 v9:=Tryz.zeroValue9
 t20:=Tryz.underlying20
 a20:=Tryz.isAgg20
 z20:=Tryz.sizeOf20
 v20:=Tryz.zeroValue20
 t37:=Tryz.underlying69
 a37:=Tryz.isAgg69
 z37:=Tryz.sizeOf69
 v37:=Tryz.zeroValue69
 t46:=Tryz.underlying134
 a46:=Tryz.isAgg134
 z46:=Tryz.sizeOf134
 v46:=Tryz.zeroValue134
 t51:=Tryz.underlying198
 a51:=Tryz.isAgg198
 z51:=Tryz.sizeOf198
 v51:=Tryz.zeroValue198
 t53:=Tryz.underlying214
 a53:=Tryz.isAgg214
 z53:=Tryz.sizeOf214
 v53:=Tryz.zeroValue214
 t70:=Tryz.underlying204
 a70:=Tryz.isAgg204
 z70:=Tryz.sizeOf204
 v70:=Tryz.zeroValue204
 t72:=Tryz.underlying206
 a72:=Tryz.isAgg206
 z72:=Tryz.sizeOf206
 v72:=Tryz.zeroValue206
 t75:=Tryz.underlying208
 a75:=Tryz.isAgg208
 z75:=Tryz.sizeOf208
 v75:=Tryz.zeroValue208
 t76:=Tryz.underlying209
 a76:=Tryz.isAgg209
 z76:=Tryz.sizeOf209
 v76:=Tryz.zeroValue209
 t109:=Tryz.underlying202
 a109:=Tryz.isAgg202
 z109:=Tryz.sizeOf202
 v109:=Tryz.zeroValue202
 t127:=Tryz.underlying217
 a127:=Tryz.isAgg217
 z127:=Tryz.sizeOf217
 v127:=Tryz.zeroValue217
 t146:=Tryz.underlying199
 a146:=Tryz.isAgg199
 z146:=Tryz.sizeOf199
 v146:=Tryz.zeroValue199
 t148:=Tryz.underlying215
 a148:=Tryz.isAgg215
 z148:=Tryz.sizeOf215
 v148:=Tryz.zeroValue215
 t164:=Tryz.underlying218
 a164:=Tryz.isAgg218
 z164:=Tryz.sizeOf218
 v164:=Tryz.zeroValue218
def Tryz.lays153_ren:Go.Shelf.Ren:=⟨fun | 153=>114 | 152=>136 | 226=>137 | 227=>138 | 228=>139 | 137=>75 | 119=>154 | 224=>155 | 225=>156 | 217=>101 | 266=>123 | n=>n,fun | 9=>9 | 3=>3 | 4=>4 | 5=>5 | 21=>21 | 117=>178 | 116=>177 | 0=>0 | 46=>134 | 124=>182 | n=>n,fun | n=>n⟩
theorem Tryz.lays153:Go.Proofs.Lays.n153 Tryz.prog Tryz.lays153_ren where
 mixed:=by kernel_rfl
 f119:=Tryz.func154.trans (congrArg some (by kernel_rfl))
 f137:=Tryz.func75.trans (congrArg some (by kernel_rfl))
 f152:=Tryz.func136.trans (congrArg some (by kernel_rfl))
 f153:=Tryz.func114.trans (congrArg some (by kernel_rfl))
 f217:=Tryz.func101.trans (congrArg some (by kernel_rfl))
 f224:=Tryz.func155.trans (congrArg some (by kernel_rfl))
 f225:=Tryz.func156.trans (congrArg some (by kernel_rfl))
 f226:=Tryz.func137.trans (congrArg some (by kernel_rfl))
 f227:=Tryz.func138.trans (congrArg some (by kernel_rfl))
 f228:=Tryz.func139.trans (congrArg some (by kernel_rfl))
 f266:=Tryz.func123.trans (congrArg some (by kernel_rfl))
 t0:=Tryz.underlying0
 a0:=Tryz.isAgg0
 z0:=Tryz.sizeOf0
 v0:=Tryz.zeroValue0
 t3:=Tryz.underlying3
 a3:=Tryz.isAgg3
 z3:=Tryz.sizeOf3
 v3:=Tryz.zeroValue3
 t4:=Tryz.underlying4
 a4:=Tryz.isAgg4
 z4:=Tryz.sizeOf4
 v4:=Tryz.zeroValue4
 t5:=Tryz.underlying5
 a5:=Tryz.isAgg5
 z5:=Tryz.sizeOf5
 v5:=Tryz.zeroValue5
 t9:=Tryz.underlying9
 a9:=Tryz.isAgg9
 z9:=Tryz.sizeOf9
 v9:=Tryz.zeroValue9
 t21:=Tryz.underlying21
 a21:=Tryz.isAgg21
 z21:=Tryz.sizeOf21
 v21:=Tryz.zeroValue21
 t46:=Tryz.underlying134
 a46:=Tryz.isAgg134
 z46:=Tryz.sizeOf134
 v46:=Tryz.zeroValue134
 t116:=Tryz.underlying177
 a116:=Tryz.isAgg177
 z116:=Tryz.sizeOf177
 t117:=Tryz.underlying178
 a117:=Tryz.isAgg178
 z117:=Tryz.sizeOf178
 v117:=Tryz.zeroValue178
 t124:=Tryz.underlying182
 a124:=Tryz.isAgg182
 z124:=Tryz.sizeOf182
 v124:=Tryz.zeroValue182
def Tryz.lays219_ren:Go.Shelf.Ren:=⟨fun | 219=>159 | 217=>101 | 225=>156 | 224=>155 | 267=>166 | 266=>123 | 314=>172 | n=>n,fun | 9=>9 | 3=>3 | 4=>4 | 5=>5 | 46=>134 | 146=>199 | 51=>198 | n=>n,fun | 1=>2 | n=>n⟩
theorem Tryz.lays219:Go.Proofs.Lays.n219 Tryz.prog Tryz.lays219_ren where
 mixed:=by kernel_rfl
 f217:=Tryz.func101.trans (congrArg some (by kernel_rfl))
 f219:=Tryz.func159.trans (congrArg some (by kernel_rfl))
 f224:=Tryz.func155.trans (congrArg some (by kernel_rfl))
 f225:=Tryz.func156.trans (congrArg some (by kernel_rfl))
 f266:=Tryz.func123.trans (congrArg some (by kernel_rfl))
 f267:=Tryz.func166.trans (congrArg some (by kernel_rfl))
 f314:=Tryz.func172.trans (congrArg some (by kernel_rfl))
 t3:=Tryz.underlying3
 a3:=Tryz.isAgg3
 z3:=Tryz.sizeOf3
 v3:=Tryz.zeroValue3
 t4:=Tryz.underlying4
 a4:=Tryz.isAgg4
 z4:=Tryz.sizeOf4
 v4:=Tryz.zeroValue4
 t5:=Tryz.underlying5
 a5:=Tryz.isAgg5
 z5:=Tryz.sizeOf5
 v5:=Tryz.zeroValue5
 t9:=Tryz.underlying9
 a9:=Tryz.isAgg9
 z9:=Tryz.sizeOf9
 v9:=Tryz.zeroValue9
 t46:=Tryz.underlying134
 a46:=Tryz.isAgg134
 z46:=Tryz.sizeOf134
 v46:=Tryz.zeroValue134
 t51:=Tryz.underlying198
 a51:=Tryz.isAgg198
 z51:=Tryz.sizeOf198
 v51:=Tryz.zeroValue198
 t146:=Tryz.underlying199
 a146:=Tryz.isAgg199
 z146:=Tryz.sizeOf199
 v146:=Tryz.zeroValue199
 g1:=by kernel_rfl
end Go.Proofs.YtihkfdkoncekmaaGreatDoor
namespace Go.Proofs.YtihkfdkoncekmaaGreatDoor
open Go.Idl Go.Shelf Go.RowKit Go.ChangeShapes Go.WideShapes Go.ChangeAt Go.WideMaps Go.WideElems
theorem Tryz.extra:Builder.Extra Tryz.prog Tryz.laysRepeat_ren where
 sizeBuilder:=by kernel_rfl
 liesBuilder:=by kernel_rfl
 t5:=Tryz.laysRepeat.t5
 a5:=Tryz.laysRepeat.a5
 z5:=Tryz.laysRepeat.z5
 v5:=Tryz.laysRepeat.v5
 infoByte:=by kernel_rfl
 cellsByte:=by kernel_rfl
 sizeByte:=by kernel_rfl
 neB5:=by decide
theorem Tryz.fRepeat:Tryz.laysRepeat_ren.f 105=171:=by kernel_rfl
theorem Tryz.set153:(Tryz.prog.info? (Tryz.lays153_ren.t 116)).map (fun i=>(i.zero,i.size))=some (some (.agg (Array.replicate 256 (.bool false))),256):=by kernel_rfl
theorem Tryz.fIndexAny:Tryz.lays153_ren.f 153=114:=by kernel_rfl
theorem Tryz.fIndex1:Tryz.lays219_ren.f 219=159:=by kernel_rfl
noncomputable def ctx:Ctx:=⟨Tryz.prog,rows,tab,fun ops is pre=>rj ops is pre=true⟩
theorem KO:Nq.all (Ku Tryz.prog rows tab.rnd)=true:=by kernel_rfl
theorem Em:Tryz.prog.follows .mixedOrders=true:=by kernel_rfl
theorem nV {fn:Func}(h:(Extern.findNext fn).isNone=true):Extern.findNext fn=none:=by
 cases e:Extern.findNext fn with
 |none=>rfl
 |some x=>rw[e] at h;cases h
theorem Gb:ER ctx ae:=by
 have key:∀f p,ae f=some p→POK ctx f p:=by
  intro f p h
  unfold ae at h
  split at h
  ·cases h
   exact sR (fun args w=>run_callFunc_extern (P:=Tryz.prog) Tryz.func123 (by kernel_rfl) (by kernel_rfl) (nV (by kernel_rfl)) (e:=Extern.BytealgIndexByte.indexByte) (by kernel_rfl) args w)
  ·cases h
   exact sT (fun args w=>run_callFunc_extern (P:=Tryz.prog) Tryz.func162 (by kernel_rfl) (by kernel_rfl) (nV (by kernel_rfl)) (e:=Extern.BytealgCount.count) (by kernel_rfl) args w)
  ·cases h
   exact wj (fun args w=>run_callFunc_extern (P:=Tryz.prog) Tryz.func182 (by kernel_rfl) (by kernel_rfl) (nV (by kernel_rfl)) (e:=Extern.BytealgCompare.compare) (by kernel_rfl) args w)
  ·cases h
   exact zd (X:=ctx) Tryz.func171 (by kernel_rfl) (by kernel_rfl) (fun s c w h1 h2=>by
    have:=Any.strings_Repeat Tryz.laysRepeat Tryz.extra s c w h1 h2
    rwa [Tryz.fRepeat] at this)
  ·cases h
   exact uJ (X:=ctx) Tryz.func114 (by kernel_rfl) (by kernel_rfl) (fun s c w h1 h2 h3 h4=>by
    have:=Any.strings_IndexAny_laid Tryz.lays153 Tryz.set153 s c w h1 h2 h3 h4
    rwa [Tryz.fIndexAny] at this)
  ·cases h
   exact zw (X:=ctx) Tryz.func159 (by kernel_rfl) (by kernel_rfl) (fun s c w=>by
    have:=Any.stringslite_Index_one Tryz.lays219 s c w
    rwa [Tryz.fIndex1] at this)
  ·cases h
 exact fun f p h=>key f p h
theorem Dc (k:Nat):gY ctx (sem tab ae k).call :=
 (tz (X:=ctx) (Hr Em fun _ _ _ h=>h) Gb (fun f ifn h=>yP (FT.all_find KO h)) k).1
def Oq:List (List UInt8×FuncId):=[([98,111,119,108,105,110,101,47,116,101,120,116,46,115,101,118,101,110],208),([98,111,119,108,105,110,101,47,116,101,120,116,46,102,105,118,101],209),([98,111,119,108,105,110,101,47,116,101,120,116,46,102,111,117,114],210),([98,111,119,108,105,110,101,47,116,101,120,116,46,116,104,114,101,101],211)]
def xM:List (String×DataW Unit):=[("unicode/utf8.acceptRanges", Rows.laid_unicode_utf8_acceptRanges),("bowline/text.short", Rows.laid_bowline_text_short),("bowline/text.leads", Rows.laid_bowline_text_leads),("unicode/utf8.first", Rows.laid_unicode_utf8_first)]
end Go.Proofs.YtihkfdkoncekmaaGreatDoor
namespace Go.Proofs.YtihkfdkoncekmaaGreatDoor
open Go.Idl Go.Shelf Go.RowKit Go.ChangeShapes Go.WideShapes Go.ChangeAt Go.WideMaps Go.WideElems
theorem own:ownKnob Tryz.prog.godebug=none:=by kernel_rfl
theorem Hu {W:World}(h:laidMetH Tryz.prog xM W):yF ctx W:=by
 intro g row e
 change rows g=some row at e
 unfold rows at e
 split at e
 ·cases e
  exact Bu h (name := "bowline/text.leads") (.tail _ (.tail _ (.head _))) (by kernel_rfl) (t:=133) (by kernel_rfl) (xW (l:=Oq) (by kernel_rfl)) (n:=8) (by kernel_rfl)
 ·cases e
  exact oB h (name := "bowline/text.short") (.tail _ (.head _)) (by kernel_rfl) (by kernel_rfl) (t:=170) (by kernel_rfl) (n:=8) (by kernel_rfl)
 ·cases e
  exact oB h (name := "unicode/utf8.first") (.tail _ (.tail _ (.tail _ (.head _)))) (by kernel_rfl) (by kernel_rfl) (t:=194) (by kernel_rfl) (n:=8) (by kernel_rfl)
 ·cases e
  exact oB h (name := "unicode/utf8.acceptRanges") (.head _) (by kernel_rfl) (by kernel_rfl) (t:=197) (by kernel_rfl) (n:=8) (by kernel_rfl)
 ·cases e
def firstCells:Array Value:=(K6.map fun v=>match v with | .int k n=>Value.int k n | _=>.nilFunc).toArray
noncomputable def wit (os:Os):World :=
 {World.doorLaid Tryz.prog 55 os with heap:=match (World.doorLaid Tryz.prog 55 os).heap[3]? with
   |some (Obj.cells _ t f)=>(World.doorLaid Tryz.prog 55 os).heap.setIfInBounds 3 (Obj.cells firstCells t f)
   |_=>(World.doorLaid Tryz.prog 55 os).heap }
theorem DL (os:Os) (args:Array Value):laidMetH Tryz.prog xM ((wit os).forCall (fun _ _=>0) ⟨#[],args,[]⟩).memory :=
 laidMetH_of_parts3 (fuel:=8) (laidMet_of_run' 8 (by kernel_rfl) (by kernel_rfl)) (by kernel_rfl) (by kernel_rfl)
theorem KI (os:Os):(wit os).os=os:=by kernel_rfl
theorem shaped (os:Os) (args:Array Value):((wit os).forCall (fun _ _=>0) ⟨#[],args,[]⟩).Shaped Tryz.prog:=World.shaped_of_RefB (by kernel_rfl) (by kernel_rfl)
end Go.Proofs.YtihkfdkoncekmaaGreatDoor
