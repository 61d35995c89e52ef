/- This text proves that every run of the interpreter over this program is a call of this program; it has no conditions. -/
import Derived.Ground.NamesProg
import Derived.Shelf.Strings.Repeat
import Derived.Shelf.Strings.IndexAnyAll
import Derived.Shelf.Strings.Search2
import Derived.Shelf.Abstract
import Derived.KernelRfl
import Derived.Test.YtihkfdkoncekmaaGreatDoorProg
import Derived.Test.YtihkfdkoncekmaaGreatDoorIdi
import Derived.Test.YtihkfdkoncekmaaGreatDoorIde
import Derived.Test.YtihkfdkoncekmaaGreatDoorIdg
import Derived.Test.YtihkfdkoncekmaaGreatDoorRows
import Derived.Test.YtihkfdkoncekmaaGreatDoorTie
import Derived.Test.YtihkfdkoncekmaaGreatDoorCards
import Derived.Shelf.Strings.SlTrimAscii
import Derived.Laws.Externs
import Derived.ProofKit
import Derived.LaidMore
import Derived.OpenShut
import Derived.SevenTiedAt
import Derived.Stop.Joined
set_option linter.unusedSimpArgs false
set_option linter.unusedVariables false
namespace Go.Proofs.YtihkfdkoncekmaaGreatDoor
open Go.Shelf Go.RowKit
def Tryz.ma:Go.Shelf.Ren:=⟨fun | 105=>171 | 212=>175 | 99=>99 | 165=>176 | 166=>177 | 170=>178 | 169=>179 | 263=>183 | 264=>184 | 206=>122 | 240=>185 | 241=>186 | 276=>188 | 277=>189 | n=>n,fun | 9=>9 | 3=>3 | 4=>4 | 20=>20 | 0=>0 | 46=>134 | 109=>202 | 5=>5 | 72=>206 | 76=>209 | 51=>198 | 146=>199 | 53=>214 | 148=>215 | 70=>204 | 37=>69 | 75=>208 | 127=>217 | 164=>218 | 80=>113 | n=>n,fun | n=>n⟩
theorem Tryz.lZ:Go.Proofs.Lays.n105 Tryz.prog Tryz.ma where
 mixed:=by kernel_rfl
 f99:=Tryz.func99.trans (congrArg some (by kernel_rfl))
 f105:=Tryz.func171.trans (congrArg some (by kernel_rfl))
 f165:=Tryz.func176.trans (congrArg some (by kernel_rfl))
 f166:=Tryz.func177.trans (congrArg some (by kernel_rfl))
 f169:=Tryz.func179.trans (congrArg some (by kernel_rfl))
 f170:=Tryz.func178.trans (congrArg some (by kernel_rfl))
 f206:=Tryz.func122.trans (congrArg some (by kernel_rfl))
 f212:=Tryz.func175.trans (congrArg some (by kernel_rfl))
 f240:=Tryz.func185.trans (congrArg some (by kernel_rfl))
 f241:=Tryz.func186.trans (congrArg some (by kernel_rfl))
 f263:=Tryz.func183.trans (congrArg some (by kernel_rfl))
 f264:=Tryz.func184.trans (congrArg some (by kernel_rfl))
 f276:=Tryz.func188.trans (congrArg some (by kernel_rfl))
 f277:=Tryz.func189.trans (congrArg some (by kernel_rfl))
 t0:=Tryz.underlying0
 a0:=Tryz.isAgg0
 z0:=Tryz.sizeOf0
 v0:=Tryz.zeroValue0
 t3:=Tryz.underlying3
 a3:=Tryz.isAgg3
 z3:=Tryz.sizeOf3
 v3:=Tryz.zeroValue3
 t4:=Tryz.underlying4
 a4:=Tryz.isAgg4
 z4:=Tryz.sizeOf4
 v4:=Tryz.zeroValue4
 t5:=Tryz.underlying5
 a5:=Tryz.isAgg5
 z5:=Tryz.sizeOf5
 v5:=Tryz.zeroValue5
 t9:=Tryz.underlying9
 a9:=Tryz.isAgg9
 z9:=Tryz.sizeOf9
 v9:=Tryz.zeroValue9
 t20:=Tryz.underlying20
 a20:=Tryz.isAgg20
 z20:=Tryz.sizeOf20
 v20:=Tryz.zeroValue20
 t37:=Tryz.underlying69
 a37:=Tryz.isAgg69
 z37:=Tryz.sizeOf69
 v37:=Tryz.zeroValue69
 t46:=Tryz.underlying134
 a46:=Tryz.isAgg134
 z46:=Tryz.sizeOf134
 v46:=Tryz.zeroValue134
 t51:=Tryz.underlying198
 a51:=Tryz.isAgg198
 z51:=Tryz.sizeOf198
 v51:=Tryz.zeroValue198
 t53:=Tryz.underlying214
 a53:=Tryz.isAgg214
 z53:=Tryz.sizeOf214
 v53:=Tryz.zeroValue214
 t70:=Tryz.underlying204
 a70:=Tryz.isAgg204
 z70:=Tryz.sizeOf204
 v70:=Tryz.zeroValue204
 t72:=Tryz.underlying206
 a72:=Tryz.isAgg206
 z72:=Tryz.sizeOf206
 v72:=Tryz.zeroValue206
 t75:=Tryz.underlying208
 a75:=Tryz.isAgg208
 z75:=Tryz.sizeOf208
 v75:=Tryz.zeroValue208
 t76:=Tryz.underlying209
 a76:=Tryz.isAgg209
 z76:=Tryz.sizeOf209
 v76:=Tryz.zeroValue209
 t109:=Tryz.underlying202
 a109:=Tryz.isAgg202
 z109:=Tryz.sizeOf202
 v109:=Tryz.zeroValue202
 t127:=Tryz.underlying217
 a127:=Tryz.isAgg217
 z127:=Tryz.sizeOf217
 v127:=Tryz.zeroValue217
 t146:=Tryz.underlying199
 a146:=Tryz.isAgg199
 z146:=Tryz.sizeOf199
 v146:=Tryz.zeroValue199
 t148:=Tryz.underlying215
 a148:=Tryz.isAgg215
 z148:=Tryz.sizeOf215
 v148:=Tryz.zeroValue215
 t164:=Tryz.underlying218
 a164:=Tryz.isAgg218
 z164:=Tryz.sizeOf218
 v164:=Tryz.zeroValue218
def Tryz.oG:Go.Shelf.Ren:=⟨fun | 153=>114 | 152=>136 | 226=>137 | 227=>138 | 228=>139 | 137=>75 | 119=>154 | 224=>155 | 225=>156 | 217=>101 | 266=>123 | n=>n,fun | 9=>9 | 3=>3 | 4=>4 | 5=>5 | 21=>21 | 117=>178 | 116=>177 | 0=>0 | 46=>134 | 124=>182 | n=>n,fun | n=>n⟩
theorem Tryz.NO:Go.Proofs.Lays.n153 Tryz.prog Tryz.oG where
 mixed:=by kernel_rfl
 f119:=Tryz.func154.trans (congrArg some (by kernel_rfl))
 f137:=Tryz.func75.trans (congrArg some (by kernel_rfl))
 f152:=Tryz.func136.trans (congrArg some (by kernel_rfl))
 f153:=Tryz.func114.trans (congrArg some (by kernel_rfl))
 f217:=Tryz.func101.trans (congrArg some (by kernel_rfl))
 f224:=Tryz.func155.trans (congrArg some (by kernel_rfl))
 f225:=Tryz.func156.trans (congrArg some (by kernel_rfl))
 f226:=Tryz.func137.trans (congrArg some (by kernel_rfl))
 f227:=Tryz.func138.trans (congrArg some (by kernel_rfl))
 f228:=Tryz.func139.trans (congrArg some (by kernel_rfl))
 f266:=Tryz.func123.trans (congrArg some (by kernel_rfl))
 t0:=Tryz.underlying0
 a0:=Tryz.isAgg0
 z0:=Tryz.sizeOf0
 v0:=Tryz.zeroValue0
 t3:=Tryz.underlying3
 a3:=Tryz.isAgg3
 z3:=Tryz.sizeOf3
 v3:=Tryz.zeroValue3
 t4:=Tryz.underlying4
 a4:=Tryz.isAgg4
 z4:=Tryz.sizeOf4
 v4:=Tryz.zeroValue4
 t5:=Tryz.underlying5
 a5:=Tryz.isAgg5
 z5:=Tryz.sizeOf5
 v5:=Tryz.zeroValue5
 t9:=Tryz.underlying9
 a9:=Tryz.isAgg9
 z9:=Tryz.sizeOf9
 v9:=Tryz.zeroValue9
 t21:=Tryz.underlying21
 a21:=Tryz.isAgg21
 z21:=Tryz.sizeOf21
 v21:=Tryz.zeroValue21
 t46:=Tryz.underlying134
 a46:=Tryz.isAgg134
 z46:=Tryz.sizeOf134
 v46:=Tryz.zeroValue134
 t116:=Tryz.underlying177
 a116:=Tryz.isAgg177
 z116:=Tryz.sizeOf177
 t117:=Tryz.underlying178
 a117:=Tryz.isAgg178
 z117:=Tryz.sizeOf178
 v117:=Tryz.zeroValue178
 t124:=Tryz.underlying182
 a124:=Tryz.isAgg182
 z124:=Tryz.sizeOf182
 v124:=Tryz.zeroValue182
def Tryz.tS:Go.Shelf.Ren:=⟨fun | 219=>159 | 217=>101 | 225=>156 | 224=>155 | 267=>166 | 266=>123 | 314=>172 | n=>n,fun | 9=>9 | 3=>3 | 4=>4 | 5=>5 | 46=>134 | 146=>199 | 51=>198 | n=>n,fun | 1=>2 | n=>n⟩
theorem Tryz.NR:Go.Proofs.Lays.n219 Tryz.prog Tryz.tS where
 mixed:=by kernel_rfl
 f217:=Tryz.func101.trans (congrArg some (by kernel_rfl))
 f219:=Tryz.func159.trans (congrArg some (by kernel_rfl))
 f224:=Tryz.func155.trans (congrArg some (by kernel_rfl))
 f225:=Tryz.func156.trans (congrArg some (by kernel_rfl))
 f266:=Tryz.func123.trans (congrArg some (by kernel_rfl))
 f267:=Tryz.func166.trans (congrArg some (by kernel_rfl))
 f314:=Tryz.func172.trans (congrArg some (by kernel_rfl))
 t3:=Tryz.underlying3
 a3:=Tryz.isAgg3
 z3:=Tryz.sizeOf3
 v3:=Tryz.zeroValue3
 t4:=Tryz.underlying4
 a4:=Tryz.isAgg4
 z4:=Tryz.sizeOf4
 v4:=Tryz.zeroValue4
 t5:=Tryz.underlying5
 a5:=Tryz.isAgg5
 z5:=Tryz.sizeOf5
 v5:=Tryz.zeroValue5
 t9:=Tryz.underlying9
 a9:=Tryz.isAgg9
 z9:=Tryz.sizeOf9
 v9:=Tryz.zeroValue9
 t46:=Tryz.underlying134
 a46:=Tryz.isAgg134
 z46:=Tryz.sizeOf134
 v46:=Tryz.zeroValue134
 t51:=Tryz.underlying198
 a51:=Tryz.isAgg198
 z51:=Tryz.sizeOf198
 v51:=Tryz.zeroValue198
 t146:=Tryz.underlying199
 a146:=Tryz.isAgg199
 z146:=Tryz.sizeOf199
 v146:=Tryz.zeroValue199
 g1:=by kernel_rfl
def Tryz.oH:Go.Shelf.Ren:=⟨fun | 161=>115 | 231=>140 | 227=>138 | 233=>141 | 235=>142 | 228=>139 | 197=>157 | 151=>158 | 260=>165 | 152=>136 | 137=>75 | 119=>154 | 224=>155 | 225=>156 | 217=>101 | 266=>123 | n=>n,fun | 9=>9 | 4=>4 | 3=>3 | 5=>5 | 117=>178 | 116=>177 | 0=>0 | 124=>182 | 105=>187 | 21=>21 | 119=>194 | 46=>134 | 139=>197 | 138=>196 | n=>n,fun | 3=>3 | 4=>4 | n=>n⟩
theorem Tryz.NP:Go.Proofs.Lays.n161 Tryz.prog Tryz.oH where
 mixed:=by kernel_rfl
 f119:=Tryz.func154.trans (congrArg some (by kernel_rfl))
 f137:=Tryz.func75.trans (congrArg some (by kernel_rfl))
 f151:=Tryz.func158.trans (congrArg some (by kernel_rfl))
 f152:=Tryz.func136.trans (congrArg some (by kernel_rfl))
 f161:=Tryz.func115.trans (congrArg some (by kernel_rfl))
 f197:=Tryz.func157.trans (congrArg some (by kernel_rfl))
 f217:=Tryz.func101.trans (congrArg some (by kernel_rfl))
 f224:=Tryz.func155.trans (congrArg some (by kernel_rfl))
 f225:=Tryz.func156.trans (congrArg some (by kernel_rfl))
 f227:=Tryz.func138.trans (congrArg some (by kernel_rfl))
 f228:=Tryz.func139.trans (congrArg some (by kernel_rfl))
 f231:=Tryz.func140.trans (congrArg some (by kernel_rfl))
 f233:=Tryz.func141.trans (congrArg some (by kernel_rfl))
 f235:=Tryz.func142.trans (congrArg some (by kernel_rfl))
 f260:=Tryz.func165.trans (congrArg some (by kernel_rfl))
 f266:=Tryz.func123.trans (congrArg some (by kernel_rfl))
 t0:=Tryz.underlying0
 a0:=Tryz.isAgg0
 z0:=Tryz.sizeOf0
 v0:=Tryz.zeroValue0
 t3:=Tryz.underlying3
 a3:=Tryz.isAgg3
 z3:=Tryz.sizeOf3
 v3:=Tryz.zeroValue3
 t4:=Tryz.underlying4
 a4:=Tryz.isAgg4
 z4:=Tryz.sizeOf4
 v4:=Tryz.zeroValue4
 t5:=Tryz.underlying5
 a5:=Tryz.isAgg5
 z5:=Tryz.sizeOf5
 v5:=Tryz.zeroValue5
 t9:=Tryz.underlying9
 a9:=Tryz.isAgg9
 z9:=Tryz.sizeOf9
 v9:=Tryz.zeroValue9
 t21:=Tryz.underlying21
 a21:=Tryz.isAgg21
 z21:=Tryz.sizeOf21
 v21:=Tryz.zeroValue21
 t46:=Tryz.underlying134
 a46:=Tryz.isAgg134
 z46:=Tryz.sizeOf134
 v46:=Tryz.zeroValue134
 t105:=Tryz.underlying187
 a105:=Tryz.isAgg187
 z105:=Tryz.sizeOf187
 v105:=Tryz.zeroValue187
 t116:=Tryz.underlying177
 a116:=Tryz.isAgg177
 z116:=Tryz.sizeOf177
 t117:=Tryz.underlying178
 a117:=Tryz.isAgg178
 z117:=Tryz.sizeOf178
 v117:=Tryz.zeroValue178
 t119:=Tryz.underlying194
 a119:=Tryz.isAgg194
 z119:=Tryz.sizeOf194
 t124:=Tryz.underlying182
 a124:=Tryz.isAgg182
 z124:=Tryz.sizeOf182
 v124:=Tryz.zeroValue182
 t138:=Tryz.underlying196
 a138:=Tryz.isAgg196
 z138:=Tryz.sizeOf196
 v138:=Tryz.zeroValue196
 t139:=Tryz.underlying197
 a139:=Tryz.isAgg197
 z139:=Tryz.sizeOf197
 v139:=Tryz.zeroValue197
 g3:=by kernel_rfl
 g4:=by kernel_rfl
def Tryz.oI:Go.Shelf.Ren:=⟨fun | 162=>119 | 232=>145 | 227=>138 | 234=>146 | 236=>147 | 228=>139 | 271=>160 | 151=>158 | 120=>167 | 197=>157 | 152=>136 | 260=>165 | 137=>75 | 119=>154 | 224=>155 | 225=>156 | 217=>101 | 266=>123 | n=>n,fun | 9=>9 | 4=>4 | 3=>3 | 5=>5 | 117=>178 | 116=>177 | 0=>0 | 124=>182 | 21=>21 | 105=>187 | 46=>134 | 119=>194 | 139=>197 | 138=>196 | n=>n,fun | 3=>3 | 4=>4 | n=>n⟩
theorem Tryz.NQ:Go.Proofs.Lays.n162 Tryz.prog Tryz.oI where
 mixed:=by kernel_rfl
 f119:=Tryz.func154.trans (congrArg some (by kernel_rfl))
 f120:=Tryz.func167.trans (congrArg some (by kernel_rfl))
 f137:=Tryz.func75.trans (congrArg some (by kernel_rfl))
 f151:=Tryz.func158.trans (congrArg some (by kernel_rfl))
 f152:=Tryz.func136.trans (congrArg some (by kernel_rfl))
 f162:=Tryz.func119.trans (congrArg some (by kernel_rfl))
 f197:=Tryz.func157.trans (congrArg some (by kernel_rfl))
 f217:=Tryz.func101.trans (congrArg some (by kernel_rfl))
 f224:=Tryz.func155.trans (congrArg some (by kernel_rfl))
 f225:=Tryz.func156.trans (congrArg some (by kernel_rfl))
 f227:=Tryz.func138.trans (congrArg some (by kernel_rfl))
 f228:=Tryz.func139.trans (congrArg some (by kernel_rfl))
 f232:=Tryz.func145.trans (congrArg some (by kernel_rfl))
 f234:=Tryz.func146.trans (congrArg some (by kernel_rfl))
 f236:=Tryz.func147.trans (congrArg some (by kernel_rfl))
 f260:=Tryz.func165.trans (congrArg some (by kernel_rfl))
 f266:=Tryz.func123.trans (congrArg some (by kernel_rfl))
 f271:=Tryz.func160.trans (congrArg some (by kernel_rfl))
 t0:=Tryz.underlying0
 a0:=Tryz.isAgg0
 z0:=Tryz.sizeOf0
 v0:=Tryz.zeroValue0
 t3:=Tryz.underlying3
 a3:=Tryz.isAgg3
 z3:=Tryz.sizeOf3
 v3:=Tryz.zeroValue3
 t4:=Tryz.underlying4
 a4:=Tryz.isAgg4
 z4:=Tryz.sizeOf4
 v4:=Tryz.zeroValue4
 t5:=Tryz.underlying5
 a5:=Tryz.isAgg5
 z5:=Tryz.sizeOf5
 v5:=Tryz.zeroValue5
 t9:=Tryz.underlying9
 a9:=Tryz.isAgg9
 z9:=Tryz.sizeOf9
 v9:=Tryz.zeroValue9
 t21:=Tryz.underlying21
 a21:=Tryz.isAgg21
 z21:=Tryz.sizeOf21
 v21:=Tryz.zeroValue21
 t46:=Tryz.underlying134
 a46:=Tryz.isAgg134
 z46:=Tryz.sizeOf134
 v46:=Tryz.zeroValue134
 t105:=Tryz.underlying187
 a105:=Tryz.isAgg187
 z105:=Tryz.sizeOf187
 v105:=Tryz.zeroValue187
 t116:=Tryz.underlying177
 a116:=Tryz.isAgg177
 z116:=Tryz.sizeOf177
 t117:=Tryz.underlying178
 a117:=Tryz.isAgg178
 z117:=Tryz.sizeOf178
 v117:=Tryz.zeroValue178
 t119:=Tryz.underlying194
 a119:=Tryz.isAgg194
 z119:=Tryz.sizeOf194
 t124:=Tryz.underlying182
 a124:=Tryz.isAgg182
 z124:=Tryz.sizeOf182
 v124:=Tryz.zeroValue182
 t138:=Tryz.underlying196
 a138:=Tryz.isAgg196
 z138:=Tryz.sizeOf196
 v138:=Tryz.zeroValue196
 t139:=Tryz.underlying197
 a139:=Tryz.isAgg197
 z139:=Tryz.sizeOf197
 v139:=Tryz.zeroValue197
 g3:=by kernel_rfl
 g4:=by kernel_rfl
end Go.Proofs.YtihkfdkoncekmaaGreatDoor
namespace Go.Proofs.YtihkfdkoncekmaaGreatDoor
open Go.Idl Go.Shelf Go.RowKit Go.ChangeShapes Go.WideShapes Go.ChangeAt Go.WideMaps Go.WideElems
theorem Tryz.extra:Builder.Extra Tryz.prog Tryz.ma where
 sizeBuilder:=by kernel_rfl
 liesBuilder:=by kernel_rfl
 t5:=Tryz.lZ.t5
 a5:=Tryz.lZ.a5
 z5:=Tryz.lZ.z5
 v5:=Tryz.lZ.v5
 infoByte:=by kernel_rfl
 cellsByte:=by kernel_rfl
 sizeByte:=by kernel_rfl
 neB5:=by decide
theorem Tryz.NB:Tryz.ma.f 105=171:=by kernel_rfl
theorem Tryz.Su:(Tryz.prog.info? (Tryz.oG.t 116)).map (fun i=>(i.zero,i.size))=some (some (.agg (Array.replicate 256 (.bool false))),256):=by kernel_rfl
theorem Tryz.Hr:Tryz.oG.f 153=114:=by kernel_rfl
theorem Tryz.Sv:(Tryz.prog.info? (Tryz.oH.t 116)).map (fun i=>(i.zero,i.size))=some (some (.agg (Array.replicate 256 (.bool false))),256):=by kernel_rfl
theorem Tryz.Hs:Tryz.oH.f 161=115:=by kernel_rfl
theorem Tryz.Sw:(Tryz.prog.info? (Tryz.oI.t 116)).map (fun i=>(i.zero,i.size))=some (some (.agg (Array.replicate 256 (.bool false))),256):=by kernel_rfl
theorem Tryz.Eh:Tryz.oI.f 162=119:=by kernel_rfl
theorem Tryz.NA:Tryz.tS.f 219=159:=by kernel_rfl
noncomputable def ctx:Ctx:=⟨Tryz.prog,rows,da,fun ops is pre=>wD ops is pre=true⟩
theorem Re:Uk.all (Ra Tryz.prog rows da.EW)=true:=by kernel_rfl
theorem Jv:Tryz.prog.follows .mixedOrders=true:=by kernel_rfl
theorem tc {fn:Func}(h:(Extern.findNext fn).isNone=true):Extern.findNext fn=none:=by
 cases e:Extern.findNext fn with
 |none=>rfl
 |some x=>rw[e] at h;cases h
theorem Og:I5 ctx al:=by
 have key:∀f p,al f=some p→I4 ctx f p:=by
  intro f p h;unfold al at h;split at h
  ·cases h
   exact yl (fun args w=>run_callFunc_extern (P:=Tryz.prog) Tryz.func123 (by kernel_rfl) (by kernel_rfl) (tc (by kernel_rfl)) (e:=Extern.BytealgIndexByte.indexByte) (by kernel_rfl) args w)
  ·cases h
   exact yk (fun args w=>run_callFunc_extern (P:=Tryz.prog) Tryz.func162 (by kernel_rfl) (by kernel_rfl) (tc (by kernel_rfl)) (e:=Extern.BytealgCount.count) (by kernel_rfl) args w)
  ·cases h
   exact C0 (fun args w=>run_callFunc_extern (P:=Tryz.prog) Tryz.func182 (by kernel_rfl) (by kernel_rfl) (tc (by kernel_rfl)) (e:=Extern.BytealgCompare.compare) (by kernel_rfl) args w)
  ·cases h
   exact EN (X:=ctx) Tryz.func171 (by kernel_rfl) (by kernel_rfl) (fun s c w h1 h2=>by
    have:=Any.strings_Repeat Tryz.lZ Tryz.extra s c w h1 h2;rwa [Tryz.NB] at this)
  ·cases h
   exact Bd (X:=ctx) Tryz.func114 (by kernel_rfl) (by kernel_rfl) (fun s c w h1 h2 h3 h4=>by
    have:=Any.strings_IndexAny_laid Tryz.NO Tryz.Su s c w h1 h2 h3 h4;rwa [Tryz.Hr] at this)
  ·cases h
   exact EM (X:=ctx) Tryz.func159 (by kernel_rfl) (by kernel_rfl) (fun s c w=>by
    have:=Any.stringslite_Index_one Tryz.NR s c w;rwa [Tryz.NA] at this)
  ·cases h
   exact Be (X:=ctx) Tryz.func115 (by kernel_rfl) (by kernel_rfl) (fun s c w h1 h2=>by
    have:=Any.strings_TrimLeft_laid Tryz.NP Tryz.Sv s c w h1 h2;rwa [Tryz.Hs] at this)
  ·cases h
   exact ym (X:=ctx) Tryz.func119 (by kernel_rfl) (by kernel_rfl) (fun s c w h1 h2 h3=>by
    have:=Any.strings_TrimRight_laid Tryz.NQ Tryz.Sw s c w h1 h2 h3;rwa [Tryz.Eh] at this)
  ·cases h
 exact fun f p h=>key f p h
theorem Jr (k:Nat):kV ctx (jc da al k).call :=
 (zt (X:=ctx) (Nt Jv fun _ _ _ h=>h) Og (fun f ifn h=>D6 (FT.vR Re h)) k).1
def XC:List (List UInt8×FuncId):=[([98,111,119,108,105,110,101,47,116,101,120,116,46,115,101,118,101,110],208),([98,111,119,108,105,110,101,47,116,101,120,116,46,102,105,118,101],209),([98,111,119,108,105,110,101,47,116,101,120,116,46,102,111,117,114],210),([98,111,119,108,105,110,101,47,116,101,120,116,46,116,104,114,101,101],211)]
def Cv:List (String×DataW Unit):=[("unicode/utf8.acceptRanges", Rows.laid_unicode_utf8_acceptRanges),("bowline/text.short", Rows.laid_bowline_text_short),("bowline/text.leads", Rows.laid_bowline_text_leads),("unicode/utf8.first", Rows.laid_unicode_utf8_first)]
end Go.Proofs.YtihkfdkoncekmaaGreatDoor
namespace Go.Proofs.YtihkfdkoncekmaaGreatDoor
open Go.Idl Go.Shelf Go.RowKit Go.ChangeShapes Go.WideShapes Go.ChangeAt Go.WideMaps Go.WideElems
theorem own:ownKnob Tryz.prog.godebug=none:=by kernel_rfl
theorem Oj {W:World}(h:laidMetH Tryz.prog Cv W):DY ctx W:=by
 intro g row e;change rows g=some row at e;unfold rows at e;split at e
 ·cases e
  exact HZ h (name := "bowline/text.leads") (.tail _ (.tail _ (.head _))) (by kernel_rfl) (t:=133) (by kernel_rfl) (Dw (l:=XC) (by kernel_rfl)) (n:=8) (by kernel_rfl)
 ·cases e
  exact th h (name := "bowline/text.short") (.tail _ (.head _)) (by kernel_rfl) (by kernel_rfl) (t:=170) (by kernel_rfl) (n:=8) (by kernel_rfl)
 ·cases e
  exact th h (name := "unicode/utf8.first") (.tail _ (.tail _ (.tail _ (.head _)))) (by kernel_rfl) (by kernel_rfl) (t:=194) (by kernel_rfl) (n:=8) (by kernel_rfl)
 ·cases e
  exact th h (name := "unicode/utf8.acceptRanges") (.head _) (by kernel_rfl) (by kernel_rfl) (t:=197) (by kernel_rfl) (n:=8) (by kernel_rfl)
 ·cases e
def firstCells:Array Value:=(Sr.map fun v=>match v with | .int k n=>Value.int k n | _=>.nilFunc).toArray
noncomputable def V5 (os:Os):World :=
 {World.doorLaid Tryz.prog 55 os with heap:=match (World.doorLaid Tryz.prog 55 os).heap[3]? with
   |some (Obj.cells _ t f)=>(World.doorLaid Tryz.prog 55 os).heap.setIfInBounds 3 (Obj.cells firstCells t f)
   |_=>(World.doorLaid Tryz.prog 55 os).heap }
theorem JG (os:Os) (args:Array Value):laidMetH Tryz.prog Cv ((V5 os).forCall (fun _ _=>0) ⟨#[],args,[]⟩).memory :=
 laidMetH_of_parts3 (fuel:=8) (laidMet_of_run' 8 (by kernel_rfl) (by kernel_rfl)) (by kernel_rfl) (by kernel_rfl)
theorem SU (os:Os):(V5 os).os=os:=by kernel_rfl
theorem shaped (os:Os) (args:Array Value):((V5 os).forCall (fun _ _=>0) ⟨#[],args,[]⟩).Shaped Tryz.prog:=World.shaped_of_RefB (by kernel_rfl) (by kernel_rfl)
end Go.Proofs.YtihkfdkoncekmaaGreatDoor
