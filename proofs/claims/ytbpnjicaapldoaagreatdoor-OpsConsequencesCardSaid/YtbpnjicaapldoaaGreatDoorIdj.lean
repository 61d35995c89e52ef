/- This text proves that every run of the interpreter over this program is a call of this program; it has no conditions. -/
import Derived.Ground.NamesProg
import Derived.Shelf.Abstract
import Derived.KernelRfl
import Derived.Test.YtbpnjicaapldoaaGreatDoorProg
import Derived.Shelf.Strconv.Atoi
import Derived.Test.YtbpnjicaapldoaaGreatDoorIdi
import Derived.Test.YtbpnjicaapldoaaGreatDoorIde
import Derived.Test.YtbpnjicaapldoaaGreatDoorIdg
import Derived.Test.YtbpnjicaapldoaaGreatDoorRows
import Derived.Test.YtbpnjicaapldoaaGreatDoorTie
import Derived.Test.YtbpnjicaapldoaaGreatDoorCards
import Derived.Laws.Externs
import Derived.ProofKit
import Derived.LaidMore
import Derived.Lib.SmallJoins
import Derived.OpenShut
import Derived.SevenTiedAt
import Derived.Stop.Joined
set_option linter.unusedSimpArgs false
set_option linter.unusedVariables false
namespace Go.Proofs.YtbpnjicaapldoaaGreatDoor
open Go.Shelf Go.RowKit
def Tryz.lays172_ren:Go.Shelf.Ren:=⟨fun | 172=>130 | 244=>170 | 245=>171 | 247=>201 | 279=>202 | 280=>203 | 281=>204 | 282=>205 | 287=>227 | 316=>228 | 171=>136 | 205=>229 | 321=>253 | 322=>254 | 243=>181 | 246=>215 | 283=>172 | 284=>173 | 285=>174 | 286=>175 | 129=>103 | 317=>206 | 318=>207 | 319=>208 | 320=>209 | 337=>230 | 338=>105 | n=>n,fun | 9=>9 | 3=>3 | 75=>171 | 76=>172 | 4=>4 | 5=>5 | 167=>238 | 37=>78 | 0=>0 | 85=>239 | 2=>2 | 168=>241 | 53=>22 | 175=>273 | 46=>194 | 210=>277 | 127=>256 | 145=>307 | 143=>305 | 21=>21 | 171=>210 | 173=>212 | 212=>245 | 51=>150 | 20=>20 | 213=>246 | 232=>284 | 233=>195 | 80=>130 | n=>n,fun | 15=>8 | 16=>9 | 17=>7 | 18=>12 | 19=>5 | n=>n⟩
theorem Tryz.lays172:Go.Proofs.Lays.n172 Tryz.prog Tryz.lays172_ren where
 mixed:=by kernel_rfl
 f129:=Tryz.func103.trans (congrArg some (by kernel_rfl))
 f171:=Tryz.func136.trans (congrArg some (by kernel_rfl))
 f172:=Tryz.func130.trans (congrArg some (by kernel_rfl))
 f205:=Tryz.func229.trans (congrArg some (by kernel_rfl))
 f243:=Tryz.func181.trans (congrArg some (by kernel_rfl))
 f244:=Tryz.func170.trans (congrArg some (by kernel_rfl))
 f245:=Tryz.func171.trans (congrArg some (by kernel_rfl))
 f246:=Tryz.func215.trans (congrArg some (by kernel_rfl))
 f247:=Tryz.func201.trans (congrArg some (by kernel_rfl))
 f279:=Tryz.func202.trans (congrArg some (by kernel_rfl))
 f280:=Tryz.func203.trans (congrArg some (by kernel_rfl))
 f281:=Tryz.func204.trans (congrArg some (by kernel_rfl))
 f282:=Tryz.func205.trans (congrArg some (by kernel_rfl))
 f283:=Tryz.func172.trans (congrArg some (by kernel_rfl))
 f284:=Tryz.func173.trans (congrArg some (by kernel_rfl))
 f285:=Tryz.func174.trans (congrArg some (by kernel_rfl))
 f286:=Tryz.func175.trans (congrArg some (by kernel_rfl))
 f287:=Tryz.func227.trans (congrArg some (by kernel_rfl))
 f316:=Tryz.func228.trans (congrArg some (by kernel_rfl))
 f317:=Tryz.func206.trans (congrArg some (by kernel_rfl))
 f318:=Tryz.func207.trans (congrArg some (by kernel_rfl))
 f319:=Tryz.func208.trans (congrArg some (by kernel_rfl))
 f320:=Tryz.func209.trans (congrArg some (by kernel_rfl))
 f321:=Tryz.func253.trans (congrArg some (by kernel_rfl))
 f322:=Tryz.func254.trans (congrArg some (by kernel_rfl))
 f337:=Tryz.func230.trans (congrArg some (by kernel_rfl))
 f338:=Tryz.func105.trans (congrArg some (by kernel_rfl))
 t0:=Tryz.underlying0
 a0:=Tryz.isAgg0
 z0:=Tryz.sizeOf0
 v0:=Tryz.zeroValue0
 t2:=Tryz.underlying2
 a2:=Tryz.isAgg2
 z2:=Tryz.sizeOf2
 v2:=Tryz.zeroValue2
 t3:=Tryz.underlying3
 a3:=Tryz.isAgg3
 z3:=Tryz.sizeOf3
 v3:=Tryz.zeroValue3
 t4:=Tryz.underlying4
 a4:=Tryz.isAgg4
 z4:=Tryz.sizeOf4
 v4:=Tryz.zeroValue4
 t5:=Tryz.underlying5
 a5:=Tryz.isAgg5
 z5:=Tryz.sizeOf5
 v5:=Tryz.zeroValue5
 t9:=Tryz.underlying9
 a9:=Tryz.isAgg9
 z9:=Tryz.sizeOf9
 v9:=Tryz.zeroValue9
 t20:=Tryz.underlying20
 a20:=Tryz.isAgg20
 z20:=Tryz.sizeOf20
 v20:=Tryz.zeroValue20
 t21:=Tryz.underlying21
 a21:=Tryz.isAgg21
 z21:=Tryz.sizeOf21
 v21:=Tryz.zeroValue21
 t37:=Tryz.underlying78
 a37:=Tryz.isAgg78
 z37:=Tryz.sizeOf78
 v37:=Tryz.zeroValue78
 t46:=Tryz.underlying194
 a46:=Tryz.isAgg194
 z46:=Tryz.sizeOf194
 v46:=Tryz.zeroValue194
 t51:=Tryz.underlying150
 a51:=Tryz.isAgg150
 z51:=Tryz.sizeOf150
 v51:=Tryz.zeroValue150
 t53:=Tryz.underlying22
 a53:=Tryz.isAgg22
 z53:=Tryz.sizeOf22
 v53:=Tryz.zeroValue22
 t75:=Tryz.underlying171
 a75:=Tryz.isAgg171
 z75:=Tryz.sizeOf171
 v75:=Tryz.zeroValue171
 t76:=Tryz.underlying172
 a76:=Tryz.isAgg172
 z76:=Tryz.sizeOf172
 v76:=Tryz.zeroValue172
 t85:=Tryz.underlying239
 a85:=Tryz.isAgg239
 z85:=Tryz.sizeOf239
 v85:=Tryz.zeroValue239
 t127:=Tryz.underlying256
 a127:=Tryz.isAgg256
 z127:=Tryz.sizeOf256
 v127:=Tryz.zeroValue256
 t143:=Tryz.underlying305
 a143:=Tryz.isAgg305
 z143:=Tryz.sizeOf305
 v143:=Tryz.zeroValue305
 t145:=Tryz.underlying307
 a145:=Tryz.isAgg307
 z145:=Tryz.sizeOf307
 v145:=Tryz.zeroValue307
 t167:=Tryz.underlying238
 a167:=Tryz.isAgg238
 z167:=Tryz.sizeOf238
 v167:=Tryz.zeroValue238
 t168:=Tryz.underlying241
 a168:=Tryz.isAgg241
 z168:=Tryz.sizeOf241
 v168:=Tryz.zeroValue241
 t171:=Tryz.underlying210
 a171:=Tryz.isAgg210
 z171:=Tryz.sizeOf210
 v171:=Tryz.zeroValue210
 t173:=Tryz.underlying212
 a173:=Tryz.isAgg212
 z173:=Tryz.sizeOf212
 v173:=Tryz.zeroValue212
 t175:=Tryz.underlying273
 a175:=Tryz.isAgg273
 z175:=Tryz.sizeOf273
 v175:=Tryz.zeroValue273
 t210:=Tryz.underlying277
 a210:=Tryz.isAgg277
 z210:=Tryz.sizeOf277
 v210:=Tryz.zeroValue277
 t212:=Tryz.underlying245
 a212:=Tryz.isAgg245
 z212:=Tryz.sizeOf245
 v212:=Tryz.zeroValue245
 t213:=Tryz.underlying246
 a213:=Tryz.isAgg246
 z213:=Tryz.sizeOf246
 t232:=Tryz.underlying284
 a232:=Tryz.isAgg284
 z232:=Tryz.sizeOf284
 v232:=Tryz.zeroValue284
 t233:=Tryz.underlying195
 a233:=Tryz.isAgg195
 z233:=Tryz.sizeOf195
 v233:=Tryz.zeroValue195
 g15:=by kernel_rfl
 g16:=by kernel_rfl
 g17:=by kernel_rfl
 g18:=by kernel_rfl
 g19:=by kernel_rfl
end Go.Proofs.YtbpnjicaapldoaaGreatDoor
namespace Go.Proofs.YtbpnjicaapldoaaGreatDoor
open Go.Idl Go.Shelf Go.RowKit Go.ChangeShapes Go.WideShapes Go.ChangeAt Go.WideMaps Go.WideElems
theorem Tryz.fAtoi:Tryz.lays172_ren.f 172=130:=by kernel_rfl
noncomputable def ctx:Ctx:=⟨Tryz.prog,rows,tab,fun ops is pre=>drawB ops is pre=true⟩
theorem ck_tab:fnsT.all (ckFn Tryz.prog rows tab.rnd)=true:=by kernel_rfl
theorem ck_order:Tryz.prog.follows .mixedOrders=true:=by kernel_rfl
theorem next_none {fn:Func}(h:(Extern.findNext fn).isNone=true):Extern.findNext fn=none:=by
 cases e:Extern.findNext fn with
 |none=>rfl
 |some x=>rw[e] at h;cases h
theorem prim_ok:PrimOK ctx prims:=by
 have key:∀f p,prims f=some p→POK ctx f p:=by
  intro f p h
  unfold prims at h
  split at h
  ·cases h
   exact pok_atoi (X:=ctx) Tryz.func130 (by kernel_rfl) (by kernel_rfl) (fun s n w h1 h2=>by
    have:=Any.strconv_Atoi Tryz.lays172 s n h1 h2 w
    rw[Tryz.fAtoi] at this
    exact this.mono fun e w' ⟨q1,t,q2⟩=>⟨q1,by rw[q2];exact Go.Joins.below_bytesWorld _ _ _ _ (Nat.le_refl _)⟩)
  ·cases h
   exact pok_add64 (fun args w=>run_callFunc_extern (P:=Tryz.prog) Tryz.func141 (by kernel_rfl) (by kernel_rfl) (next_none (by kernel_rfl)) (e:=add64Entry) (by kernel_rfl) args w)
  ·cases h
 exact fun f p h=>key f p h
theorem calls_ok (k:Nat):CallOK ctx (sem tab prims k).call :=
 (sem_sound (X:=ctx) (draw_ok ck_order fun _ _ _ h=>h) prim_ok (fun f ifn h=>ckFn_sound (FT.all_find ck_tab h)) k).1
def laidL:List (String×DataW Unit):=[("math/bits.deBruijn32tab", Rows.laid_math_bits_deBruijn32tab),("math/bits.deBruijn64tab", Rows.laid_math_bits_deBruijn64tab),("internal/strconv.float32info", Rows.laid_internal_strconv_float32info),("internal/strconv.float64info", Rows.laid_internal_strconv_float64info),("internal/strconv.optimize", Rows.laid_internal_strconv_optimize),("internal/strconv.powtab", Rows.laid_internal_strconv_powtab),("internal/strconv.float64pow10", Rows.laid_internal_strconv_float64pow10),("internal/strconv.float32pow10", Rows.laid_internal_strconv_float32pow10),("internal/strconv.uint64pow10", Rows.laid_internal_strconv_uint64pow10),("strconv.ErrRange", Rows.laid_strconv_ErrRange),("strconv.ErrSyntax", Rows.laid_strconv_ErrSyntax),("unicode.White_Space", Rows.laid_unicode_White_Space),("strings.asciiSpace", Rows.laid_strings_asciiSpace),("bowline/float.specials", Rows.laid_bowline_float_specials),("bowline/ops.floats", Rows.laid_bowline_ops_floats),("bowline/ops.floating", Rows.laid_bowline_ops_floating),("internal/strconv.leftcheats", Rows.laid_internal_strconv_leftcheats),("internal/strconv.pow10Tab", Rows.laid_internal_strconv_pow10Tab)]
def laidP:List (String×DataW Unit):=[("math/bits.deBruijn32tab", Rows.laid_math_bits_deBruijn32tab),("math/bits.deBruijn64tab", Rows.laid_math_bits_deBruijn64tab),("internal/strconv.float32info", Rows.laid_internal_strconv_float32info),("internal/strconv.float64info", Rows.laid_internal_strconv_float64info),("internal/strconv.optimize", Rows.laid_internal_strconv_optimize),("internal/strconv.powtab", Rows.laid_internal_strconv_powtab),("internal/strconv.float64pow10", Rows.laid_internal_strconv_float64pow10),("internal/strconv.float32pow10", Rows.laid_internal_strconv_float32pow10),("internal/strconv.uint64pow10", Rows.laid_internal_strconv_uint64pow10),("strconv.ErrRange", Rows.laid_strconv_ErrRange),("strconv.ErrSyntax", Rows.laid_strconv_ErrSyntax),("unicode.White_Space", Rows.laid_unicode_White_Space),("strings.asciiSpace", Rows.laid_strings_asciiSpace),("bowline/ops.floats", Rows.laid_bowline_ops_floats),("bowline/ops.floating", Rows.laid_bowline_ops_floating),("internal/strconv.leftcheats", Rows.laid_internal_strconv_leftcheats),("internal/strconv.pow10Tab", Rows.laid_internal_strconv_pow10Tab)]
end Go.Proofs.YtbpnjicaapldoaaGreatDoor
namespace Go.Proofs.YtbpnjicaapldoaaGreatDoor
open Go.Idl Go.Shelf Go.RowKit Go.ChangeShapes Go.WideShapes Go.ChangeAt Go.WideMaps Go.WideElems
set_option maxRecDepth 100000
theorem own:ownKnob Tryz.prog.godebug=none:=by kernel_rfl
def powCells:Array Value:=(Go.Pinned.pow10Rows.flatMap fun x=>[Value.int .u64 x.1,Value.int .u64 x.2]).toArray
def cheatCells:Array Value:=(Go.Pinned.cheatRows.flatMap fun x=>[Value.int .i64 x.1,Value.string ⟨⟨x.2⟩⟩]).toArray
def varsA:List Obj:=[.cells #[.string ⟨⟨[102,51,50]⟩⟩,.int .i64 32,.string ⟨⟨[102,54,52]⟩⟩,.int .i64 64] 47 (0,0),
 .cells #[.int .i64 6,.int .i64 7,.int .i64 8,.int .i64 18,.int .i64 30,.int .i64 34,.int .i64 35,.int .i64 36,.int .i64 37] 86 (0,0),
 .cells #[.string ⟨⟨[110,97,110]⟩⟩,.func (.func 113) #[] #[],.string ⟨⟨[105,110,102]⟩⟩,.func (.func 156) #[] #[],.string ⟨⟨[45,105,110,102]⟩⟩,.func (.func 323) #[] #[],.string ⟨⟨[48,46,48]⟩⟩,.func (.func 324) #[] #[],.string ⟨⟨[45,48,46,48]⟩⟩,.func (.func 65) #[] #[]] 126 (0,0),
 .cells #[.bool false] 4 (0,0),
 .cells #[.int .u8 0,.int .u8 0,.int .u8 0,.int .u8 0,.int .u8 0,.int .u8 0,.int .u8 0,.int .u8 0,.int .u8 0,.int .u8 1,.int .u8 1,.int .u8 1,.int .u8 1,.int .u8 1,.int .u8 0,.int .u8 0,.int .u8 0,.int .u8 0,.int .u8 0,.int .u8 0,.int .u8 0,.int .u8 0,.int .u8 0,.int .u8 0,.int .u8 0,.int .u8 0,.int .u8 0,.int .u8 0,.int .u8 0,.int .u8 0,.int .u8 0,.int .u8 0,.int .u8 1,.int .u8 0,.int .u8 0,.int .u8 0,.int .u8 0,.int .u8 0,.int .u8 0,.int .u8 0,.int .u8 0,.int .u8 0,.int .u8 0,.int .u8 0,.int .u8 0,.int .u8 0,.int .u8 0,.int .u8 0,.int .u8 0,.int .u8 0,.int .u8 0,.int .u8 0,.int .u8 0,.int .u8 0,.int .u8 0,.int .u8 0,.int .u8 0,.int .u8 0,.int .u8 0,.int .u8 0,.int .u8 0,.int .u8 0,.int .u8 0,.int .u8 0,.int .u8 0,.int .u8 0,.int .u8 0,.int .u8 0,.int .u8 0,.int .u8 0,.int .u8 0,.int .u8 0,.int .u8 0,.int .u8 0,.int .u8 0,.int .u8 0,.int .u8 0,.int .u8 0,.int .u8 0,.int .u8 0,.int .u8 0,.int .u8 0,.int .u8 0,.int .u8 0,.int .u8 0,.int .u8 0,.int .u8 0,.int .u8 0,.int .u8 0,.int .u8 0,.int .u8 0,.int .u8 0,.int .u8 0,.int .u8 0,.int .u8 0,.int .u8 0,.int .u8 0,.int .u8 0,.int .u8 0,.int .u8 0,.int .u8 0,.int .u8 0,.int .u8 0,.int .u8 0,.int .u8 0,.int .u8 0,.int .u8 0,.int .u8 0,.int .u8 0,.int .u8 0,.int .u8 0,.int .u8 0,.int .u8 0,.int .u8 0,.int .u8 0,.int .u8 0,.int .u8 0,.int .u8 0,.int .u8 0,.int .u8 0,.int .u8 0,.int .u8 0,.int .u8 0,.int .u8 0,.int .u8 0,.int .u8 0,.int .u8 0,.int .u8 0,.int .u8 0,.int .u8 0,.int .u8 0,.int .u8 0,.int .u8 0,.int .u8 0,.int .u8 0,.int .u8 0,.int .u8 0,.int .u8 0,.int .u8 0,.int .u8 0,.int .u8 0,.int .u8 0,.int .u8 0,.int .u8 0,.int .u8 0,.int .u8 0,.int .u8 0,.int .u8 0,.int .u8 0,.int .u8 0,.int .u8 0,.int .u8 0,.int .u8 0,.int .u8 0,.int .u8 0,.int .u8 0,.int .u8 0,.int .u8 0,.int .u8 0,.int .u8 0,.int .u8 0,.int .u8 0,.int .u8 0,.int .u8 0,.int .u8 0,.int .u8 0,.int .u8 0,.int .u8 0,.int .u8 0,.int .u8 0,.int .u8 0,.int .u8 0,.int .u8 0,.int .u8 0,.int .u8 0,.int .u8 0,.int .u8 0,.int .u8 0,.int .u8 0,.int .u8 0,.int .u8 0,.int .u8 0,.int .u8 0,.int .u8 0,.int .u8 0,.int .u8 0,.int .u8 0,.int .u8 0,.int .u8 0,.int .u8 0,.int .u8 0,.int .u8 0,.int .u8 0,.int .u8 0,.int .u8 0,.int .u8 0,.int .u8 0,.int .u8 0,.int .u8 0,.int .u8 0,.int .u8 0,.int .u8 0,.int .u8 0,.int .u8 0,.int .u8 0,.int .u8 0,.int .u8 0,.int .u8 0,.int .u8 0,.int .u8 0,.int .u8 0,.int .u8 0,.int .u8 0,.int .u8 0,.int .u8 0,.int .u8 0,.int .u8 0,.int .u8 0,.int .u8 0,.int .u8 0,.int .u8 0,.int .u8 0,.int .u8 0,.int .u8 0,.int .u8 0,.int .u8 0,.int .u8 0,.int .u8 0,.int .u8 0,.int .u8 0,.int .u8 0,.int .u8 0,.int .u8 0,.int .u8 0,.int .u8 0,.int .u8 0,.int .u8 0,.int .u8 0,.int .u8 0,.int .u8 0,.int .u8 0,.int .u8 0,.int .u8 0,.int .u8 0,.int .u8 0,.int .u8 0,.int .u8 0,.int .u8 0,.int .u8 0,.int .u8 0,.int .u8 0,.int .u8 0,.int .u8 0,.int .u8 0,.int .u8 0,.int .u8 0] 183 (0,0),
 .cells #[.int .u8 0,.int .u8 1,.int .u8 56,.int .u8 2,.int .u8 57,.int .u8 49,.int .u8 28,.int .u8 3,.int .u8 61,.int .u8 58,.int .u8 42,.int .u8 50,.int .u8 38,.int .u8 29,.int .u8 17,.int .u8 4,.int .u8 62,.int .u8 47,.int .u8 59,.int .u8 36,.int .u8 45,.int .u8 43,.int .u8 51,.int .u8 22,.int .u8 53,.int .u8 39,.int .u8 33,.int .u8 30,.int .u8 24,.int .u8 18,.int .u8 12,.int .u8 5,.int .u8 63,.int .u8 55,.int .u8 48,.int .u8 27,.int .u8 60,.int .u8 41,.int .u8 37,.int .u8 16,.int .u8 46,.int .u8 35,.int .u8 44,.int .u8 21,.int .u8 52,.int .u8 32,.int .u8 23,.int .u8 11,.int .u8 54,.int .u8 26,.int .u8 40,.int .u8 15,.int .u8 34,.int .u8 20,.int .u8 31,.int .u8 10,.int .u8 25,.int .u8 14,.int .u8 19,.int .u8 9,.int .u8 13,.int .u8 8,.int .u8 7,.int .u8 6] 195 (0,0),
 .cells #[.pointer (some ⟨32,0,none⟩)] 229 (0,0),
 .cells #[.int .u64 1,.int .u64 10,.int .u64 100,.int .u64 1000,.int .u64 10000,.int .u64 100000,.int .u64 1000000,.int .u64 10000000,.int .u64 100000000,.int .u64 1000000000,.int .u64 10000000000,.int .u64 100000000000,.int .u64 1000000000000,.int .u64 10000000000000,.int .u64 100000000000000,.int .u64 1000000000000000,.int .u64 10000000000000000,.int .u64 100000000000000000,.int .u64 1000000000000000000,.int .u64 10000000000000000000] 245 (0,0),
 .cells #[.iface 305 (.pointer (some ⟨30,0,none⟩))] 171 (0,0),
 .cells #[.iface 305 (.pointer (some ⟨29,0,none⟩))] 171 (0,0),
 .cells #[.int .i64 0] 3 (0,0),
 .cells #[.bool true] 4 (0,0),
 .cells #[.int .u8 0,.int .u8 1,.int .u8 28,.int .u8 2,.int .u8 29,.int .u8 14,.int .u8 24,.int .u8 3,.int .u8 30,.int .u8 22,.int .u8 20,.int .u8 15,.int .u8 25,.int .u8 17,.int .u8 4,.int .u8 8,.int .u8 31,.int .u8 27,.int .u8 13,.int .u8 23,.int .u8 21,.int .u8 19,.int .u8 16,.int .u8 7,.int .u8 26,.int .u8 12,.int .u8 18,.int .u8 6,.int .u8 11,.int .u8 5,.int .u8 10,.int .u8 9] 284 (0,0),
 .cells powCells 328 (0,0),
 .cells #[.slice (some ⟨33,0,none⟩) 61 61] 333 (0,0),
 .cells #[.int .u64 23,.int .u64 8,.int .i64 (-127)] 342 (0,0),
 .cells #[.int .u64 52,.int .u64 11,.int .i64 (-1023)] 342 (0,0),
 .cells #[.slice (some ⟨28,0,none⟩) 11 11] 352 (0,0),
 .cells #[.slice (some ⟨26,0,none⟩) 9 9] 55 (0,0),
 .cells #[.slice (some ⟨27,0,none⟩) 23 23] 354 (0,0),
 .cells #[.pointer (some ⟨32,0,none⟩)] 229 (0,0)]
def varsC:List Obj:=[.cells #[.int .i64 1,.int .i64 3,.int .i64 6,.int .i64 9,.int .i64 13,.int .i64 16,.int .i64 19,.int .i64 23,.int .i64 26] 3 (0,0),
 .cells #[.float .f64 4607182418800017408,.float .f64 4621819117588971520,.float .f64 4636737291354636288,.float .f64 4652007308841189376,.float .f64 4666723172467343360,.float .f64 4681608360884174848,.float .f64 4696837146684686336,.float .f64 4711630319722168320,.float .f64 4726483295884279808,.float .f64 4741671816366391296,.float .f64 4756540486875873280,.float .f64 4771362005757984768,.float .f64 4786511204640096256,.float .f64 4801453603149578240,.float .f64 4816244402031689728,.float .f64 4831355200913801216,.float .f64 4846369599423283200,.float .f64 4861130398305394688,.float .f64 4876203697187506176,.float .f64 4891288408196988160,.float .f64 4906019910204099648,.float .f64 4921056587992461136,.float .f64 4936209963552724370] 94 (0,0),
 .cells #[.float .f32 1065353216,.float .f32 1092616192,.float .f32 1120403456,.float .f32 1148846080,.float .f32 1176256512,.float .f32 1203982336,.float .f32 1232348160,.float .f32 1259902592,.float .f32 1287568416,.float .f32 1315859240,.float .f32 1343554297] 99 (0,0),
 .cells #[.string ⟨⟨[118,97,108,117,101,32,111,117,116,32,111,102,32,114,97,110,103,101]⟩⟩] 307 (0,0),
 .cells #[.string ⟨⟨[105,110,118,97,108,105,100,32,115,121,110,116,97,120]⟩⟩] 307 (0,0),
 .cells #[.int .u16 9,.int .u16 13,.int .u16 1,.int .u16 32,.int .u16 133,.int .u16 101,.int .u16 160,.int .u16 5760,.int .u16 5600,.int .u16 8192,.int .u16 8202,.int .u16 1,.int .u16 8232,.int .u16 8233,.int .u16 1,.int .u16 8239,.int .u16 8287,.int .u16 48,.int .u16 12288,.int .u16 12288,.int .u16 1] 263 (0,0),
 .cells #[.slice (some ⟨31,0,none⟩) 7 7,.slice none 0 0,.int .i64 2] 260 (0,0),
 .cells cheatCells 332 (0,0)]
noncomputable def wit (os:Os):World :=
 {World.settled Tryz.prog os with heap:=(varsA++((begin Tryz.prog (fun _ _=>0) default).world.heap.toList.drop 21++varsC)).toArray }
theorem wit_os (os:Os):(wit os).os=os:=by kernel_rfl
def zipOk (P:Program) (w:World):List TypeId→List Value→Bool
 |[],[]=>true
 |u::us,v::vs=>Cell.okRefB P w u v&&zipOk P w us vs
 |_,_=>false
theorem zipOk_len {P:Program}{w:World}:∀{us:List TypeId}{vs:List Value},zipOk P w us vs=true→us.length=vs.length
 |[],[],_=>rfl
 |u::us,v::vs,h=>by
  simp only[zipOk,Bool.and_eq_true] at h
  rw[List.length_cons,List.length_cons,zipOk_len h.2]
 |[],_::_,h=>by cases h
 |_::_,[],h=>by cases h
theorem zipOk_get {P:Program}{w:World}:∀{us:List TypeId}{vs:List Value},zipOk P w us vs=true→∀(i:Nat) (v:Value),vs[i]?=some v→∃u,us[i]?=some u∧Cell.okRefB P w u v=true
 |[],[],_,i,v,e=>by simp at e
 |u::us,v::vs,h,i,x,e=>by
  simp only[zipOk,Bool.and_eq_true] at h
  cases i with
  |zero=>simp at e;subst e;exact⟨u,rfl,h.1⟩
  |succ i=>simpa using zipOk_get h.2 i x (by simpa using e)
 |[],_::_,h,_,_,_=>by cases h
 |_::_,[],h,_,_,_=>by cases h
theorem row_of_zip {P:Program}{w:World}{base:Nat}{t:TypeId}{cs:Array Value}{ts:List TypeId}(hts:P.cellTypes P.depth t=some ts) (h:zipOk P w ts cs.toList=true):Row.ok P w .any base t cs:=by
 have hl:=zipOk_len h
 have hl:ts.length=cs.size:=by simpa using hl
 refine⟨ts,hts,⟨1,by omega⟩,fun i v hv=>?_⟩
 have hi:i<cs.size:=(Array.getElem?_eq_some_iff.1 hv).1
 obtain⟨u,h1,h2⟩:=zipOk_get h i v (by simpa using hv)
 rw[Nat.mod_eq_of_lt (by omega)]
 exact⟨u,h1,Cell.ok_of_okRefB h2⟩
def varB (P:Program) (w w0:World) (g:Nat):Bool :=
 match (w0.heap[g]?).bind Obj.row? with
 |none=>true
 |some (zero,t) =>
  match w.heap[g]? with
  |some (.cells cs t' frozen)=>decide (t'=t)&&decide (frozen=(0,0))&&cs.size==zero.size&&(!P.buildable t||match P.cellTypes P.depth t with
   |some ts=>zipOk P w ts cs.toList
   |none=>false)
  |_=>false
theorem shaped_of {P:Program}{w:World}(hv:((List.range P.globals.size).all (varB P w (begin P (fun _ _=>0) default).world))=true)
  (hr:(w.heap.toList.drop P.globals.size).take ((begin P (fun _ _=>0) default).world.heap.size-P.globals.size) =
   (begin P (fun _ _=>0) default).world.heap.toList.drop P.globals.size):w.Shaped P:=by
 refine⟨fun g zero t hg hz=>?_,fun k h1 h2=>?_⟩
 case refine_2 =>
  have:=congrArg (·[k-P.globals.size]?) hr
  simp only[List.getElem?_take,List.getElem?_drop,Array.getElem?_toList] at this
  rw[if_pos (by omega),Nat.add_sub_cancel' h1] at this
  exact this
 have:=List.all_eq_true.1 hv g (List.mem_range.2 hg)
 unfold varB at this
 rw[hz] at this
 simp only at this
 split at this
 ·rename_i cs t' fr hw
  simp only[Bool.and_eq_true,decide_eq_true_eq,beq_iff_eq,Bool.or_eq_true,Bool.not_eq_true'] at this
  obtain⟨⟨⟨rfl,rfl⟩,hs⟩,hb⟩:=this
  refine⟨cs,hw,hs,fun hbuild=>?_⟩
  rcases hb with hb | hb
  ·rw[hbuild] at hb;cases hb
  ·split at hb
   ·rename_i ts hts
    exact row_of_zip hts hb
   ·cases hb
 ·cases this
theorem shaped (os:Os) (args:Array Value):((wit os).forCall (fun _ _=>0) ⟨#[],args,[]⟩).Shaped Tryz.prog:=shaped_of (by kernel_rfl) (by kernel_rfl)
theorem LaidVars_append {P:Program}{w:World}:∀{a b:List (String×DataW Unit)}{p q:List MemPlace},DataW.LaidVars P w a p→DataW.LaidVars P w b q→DataW.LaidVars P w (a++b) (p++q)
 |[],b,p,q,h1,h2=>by
  have h1:p=[]:=h1
  subst h1
  exact h2
 |(n,d)::r,b,ps,q,h1,h2=>by
  obtain⟨g,t,cs,fuel,p,q',e1,e2,e3,e4,e5,rfl⟩:=h1
  exact⟨g,t,cs,fuel,p,q'++q,e1,e2,e3,e4,LaidVars_append e5 h2,by simp[List.append_assoc]⟩
def incB:Nat→List MemPlace→Bool
 |_,[]=>true
 |k,.cell b o::r=>Nat.ble k (b*4096+o)&&Nat.blt o 4096&&incB (b*4096+o+1) r
 |_,.map _::_=>false
theorem incB_mem:∀{l:List MemPlace}{k:Nat},incB k l=true→∀p∈l,∃b o,p=.cell b o∧o<4096∧k≤b*4096+o
 |[],_,_,p,hp=>by cases hp
 |.cell b o::r,k,h,p,hp=>by
  simp only[incB,Bool.and_eq_true] at h
  obtain⟨⟨h1,h2⟩,h3⟩:=h
  have h1:=Nat.le_of_ble_eq_true h1
  rw[Nat.blt_eq] at h2
  rcases List.mem_cons.1 hp with rfl | hp
  ·exact⟨b,o,rfl,h2,h1⟩
  ·obtain⟨b',o',e,q1,q2⟩:=incB_mem h3 p hp
   exact⟨b',o',e,q1,Nat.le_trans h1 (Nat.le_trans (Nat.le_succ _) q2)⟩
 |.map _::_,_,h,_,_=>by cases h
theorem incB_nodup:∀{l:List MemPlace}{k:Nat},incB k l=true→l.Nodup
 |[],_,_=>List.nodup_nil
 |.cell b o::r,k,h=>by
  simp only[incB,Bool.and_eq_true] at h
  refine List.nodup_cons.2 ⟨fun hm=>?_,incB_nodup h.2⟩
  obtain⟨b',o',e,q1,q2⟩:=incB_mem h.2 _ hm
  cases e
  omega
 |.map _::_,_,h=>by cases h
def inB (f:Nat→Bool) (l:List MemPlace):Bool:=l.all fun | .cell b _=>f b | .map _=>false
theorem inB_mem {f:Nat→Bool}{l:List MemPlace}(h:inB f l=true):∀p∈l,∃b o,p=.cell b o∧f b=true:=by
 intro p hp
 have:=List.all_eq_true.1 h p hp
 cases p with
 |cell b o=>exact⟨b,o,rfl,this⟩
 |map _=>cases this
theorem inB_disj {f g:Nat→Bool}{a b:List MemPlace}(h1:inB f a=true) (h2:inB g b=true) (hd:∀n,f n=true→g n=true→False):∀p∈a,∀q∈b,p≠q:=by
 intro p hp q hq e
 subst e
 obtain⟨x,o,e1,k1⟩:=inB_mem h1 p hp
 obtain⟨y,o',e2,k2⟩:=inB_mem h2 p hq
 rw[e1] at e2
 cases e2
 exact hd x k1 k2
def f0 (n:Nat):Bool:=!(Nat.beq n 13||(Nat.beq n 14||Nat.beq n 33))
def f1 (n:Nat):Bool:=Nat.beq n 14||Nat.beq n 33
def f2 (n:Nat):Bool:=Nat.beq n 13
theorem rows_mem {P:Program}{w:World}{ps:List MemPlace}(hr:laidRowsB P w ps=true):∀b off,MemPlace.cell b off∈ps→(∃c t,w.heap[b]?=some (.cells c t (0,0)))∧∀u v,w.cell? ⟨b,off,none⟩=some (.iface u v)→Value.okWide P w .any 0 u v:=by
 intro b off hp
 have:=List.all_eq_true.1 hr _ hp
 simp only[Bool.and_eq_true] at this
 obtain⟨h1,h2⟩:=this
 refine⟨?_,fun u v hc=>?_⟩
 ·split at h1
  ·rename_i c t hh
   exact⟨c,t,hh⟩
  ·cases h1
 ·rw[hc] at h2
  exact Value.okWide_of_okWideB h2
theorem part_of {P:Program}{w:World}{l:List (String×DataW Unit)}{C:List MemPlace→Bool}(h:(DataW.laidRun P w 8 (l.map (·.1))).map (·.1)=some l) (hr:(DataW.laidRun P w 8 (l.map (·.1))).map (fun x=>C x.2)=some true) :
  ∃ps,DataW.LaidVars P w l ps∧C ps=true:=by
 cases hx:DataW.laidRun P w 8 (l.map (·.1)) with
 |none=>simp[hx] at h
 |some x =>
  obtain⟨l',ps⟩:=x
  simp only[hx,Option.map_some,Option.some.injEq] at h hr
  subst h
  exact⟨ps,DataW.LaidVars_of_laidRun hx,hr⟩
def laid0:List (String×DataW Unit):=laidP.take 15
def laid1:List (String×DataW Unit):=(laidP.drop 15).take 1
def laid2:List (String×DataW Unit):=(laidP.drop 16).take 1
noncomputable abbrev WM (os:Os) (args:Array Value):World:=((wit os).forCall (fun _ _=>0) ⟨#[],args,[]⟩).memory
theorem part0 (os:Os) (args:Array Value):∃ps,DataW.LaidVars Tryz.prog (WM os args) laid0 ps∧(decide ps.Nodup&&(laidRowsB Tryz.prog (WM os args) ps&&inB f0 ps))=true :=
 part_of (C:=fun ps=>decide ps.Nodup&&(laidRowsB Tryz.prog (WM os args) ps&&inB f0 ps)) (by kernel_rfl) (by kernel_rfl)
theorem part1 (os:Os) (args:Array Value):∃ps,DataW.LaidVars Tryz.prog (WM os args) laid1 ps∧(incB 0 ps&&(laidRowsB Tryz.prog (WM os args) ps&&inB f1 ps))=true :=
 part_of (C:=fun ps=>incB 0 ps&&(laidRowsB Tryz.prog (WM os args) ps&&inB f1 ps)) (by kernel_rfl) (by kernel_rfl)
theorem part2 (os:Os) (args:Array Value):∃ps,DataW.LaidVars Tryz.prog (WM os args) laid2 ps∧(incB 0 ps&&inB f2 ps)=true :=
 part_of (C:=fun ps=>incB 0 ps&&inB f2 ps) (by kernel_rfl) (by kernel_rfl)
theorem heapP (os:Os) (args:Array Value):(WM os args).heap[13]?=some (.cells powCells 328 (0,0)):=by kernel_rfl
def isIntB:Value→Bool
 |.int ..=>true
 |_=>false
theorem pow_int:powCells.toList.all isIntB=true:=by kernel_rfl
theorem rows2 (os:Os) (args:Array Value) {ps:List MemPlace}(h:inB f2 ps=true):∀b off,MemPlace.cell b off∈ps→(∃c t,(WM os args).heap[b]?=some (.cells c t (0,0)))∧∀u v,(WM os args).cell? ⟨b,off,none⟩=some (.iface u v)→Value.okWide Tryz.prog (WM os args) .any 0 u v:=by
 intro b off hp
 obtain⟨b',o',e,k⟩:=inB_mem h _ hp
 cases e
 have e:=Nat.eq_of_beq_eq_true k
 subst e
 have hh:=heapP os args
 have hq:=pow_int
 generalize powCells=pc at hh hq
 refine⟨⟨_,_,hh⟩,fun u v hc=>?_⟩
 unfold World.cell? at hc
 rw[hh] at hc
 have hc:pc[off]?=some (.iface u v):=hc
 have hm:Value.iface u v∈pc.toList:=Array.mem_toList_iff.2 (Array.mem_of_getElem? hc)
 have:=List.all_eq_true.1 hq _ hm
 cases this
theorem door_met (os:Os) (args:Array Value):laidMetH Tryz.prog laidL (WM os args):=by
 refine laidMetH_of_parts3 (fuel:=8) ?_ (by kernel_rfl) (by kernel_rfl)
 rw[show (laidL.filter fun x=>x.2.handleName?.isNone)=laidP by kernel_rfl]
 obtain⟨p0,a0,b0⟩:=part0 os args
 obtain⟨p1,a1,b1⟩:=part1 os args
 obtain⟨p2,a2,b2⟩:=part2 os args
 simp only[Bool.and_eq_true,decide_eq_true_eq] at b0 b1 b2
 refine⟨p0++(p1++p2),LaidVars_append a0 (LaidVars_append a1 a2),?_,?_⟩
 ·refine List.nodup_append.2 ⟨b0.1,List.nodup_append.2 ⟨incB_nodup b1.1,incB_nodup b2.1,inB_disj b1.2.2 b2.2 ?_⟩,?_⟩
  ·intro n h1 h2
   have e:=Nat.eq_of_beq_eq_true h2
   subst e
   cases h1
  ·intro p hp q hq
   rcases List.mem_append.1 hq with hq | hq
   ·refine inB_disj b0.2.2 b1.2.2 ?_ p hp q hq
    intro n h1 h2
    simp only[f0,f1,Bool.not_eq_true',Bool.or_eq_false_iff,Bool.or_eq_true] at h1 h2
    rcases h2 with h2 | h2
    ·rw[h1.2.1] at h2;cases h2
    ·rw[h1.2.2] at h2;cases h2
   ·refine inB_disj b0.2.2 b2.2 ?_ p hp q hq
    intro n h1 h2
    simp only[f0,f2,Bool.not_eq_true',Bool.or_eq_false_iff] at h1 h2
    rw[h1.1] at h2;cases h2
 ·intro b off hp
  rcases List.mem_append.1 hp with hp | hp
  ·exact rows_mem b0.2.1 b off hp
  ·rcases List.mem_append.1 hp with hp | hp
   ·exact rows_mem b1.2.1 b off hp
   ·exact rows2 os args b2.2 b off hp
end Go.Proofs.YtbpnjicaapldoaaGreatDoor
namespace Go.Proofs.YtbpnjicaapldoaaGreatDoor
open Go.Idl Go.Shelf Go.RowKit Go.ChangeShapes Go.WideShapes Go.ChangeAt Go.WideMaps Go.WideElems
theorem rows_at {W:World}(h:laidMetH Tryz.prog laidL W):RowsAt ctx W:=by
 intro g row e
 change rows g=some row at e
 unfold rows at e
 split at e
 ·cases e
  exact row_plain h (name := "math/bits.deBruijn32tab") (.head _) (by kernel_rfl) (by kernel_rfl) (t:=284) (by kernel_rfl) (n:=8) (by kernel_rfl)
 ·cases e
  exact row_plain h (name := "math/bits.deBruijn64tab") (.tail _ (.head _)) (by kernel_rfl) (by kernel_rfl) (t:=195) (by kernel_rfl) (n:=8) (by kernel_rfl)
 ·cases e
  exact row_plain h (name := "internal/strconv.uint64pow10") (.tail _ (.tail _ (.tail _ (.tail _ (.tail _ (.tail _ (.tail _ (.tail _ (.head _))))))))) (by kernel_rfl) (by kernel_rfl) (t:=245) (by kernel_rfl) (n:=8) (by kernel_rfl)
 ·cases e
  exact row_plain h (name := "strings.asciiSpace") (.tail _ (.tail _ (.tail _ (.tail _ (.tail _ (.tail _ (.tail _ (.tail _ (.tail _ (.tail _ (.tail _ (.tail _ (.head _))))))))))))) (by kernel_rfl) (by kernel_rfl) (t:=183) (by kernel_rfl) (n:=8) (by kernel_rfl)
 ·cases e
  exact row_plain h (name := "bowline/ops.floats") (.tail _ (.tail _ (.tail _ (.tail _ (.tail _ (.tail _ (.tail _ (.tail _ (.tail _ (.tail _ (.tail _ (.tail _ (.tail _ (.tail _ (.head _))))))))))))))) (by kernel_rfl) (by kernel_rfl) (t:=47) (by kernel_rfl) (n:=8) (by kernel_rfl)
 ·cases e
  exact row_plain h (name := "bowline/ops.floating") (.tail _ (.tail _ (.tail _ (.tail _ (.tail _ (.tail _ (.tail _ (.tail _ (.tail _ (.tail _ (.tail _ (.tail _ (.tail _ (.tail _ (.tail _ (.head _)))))))))))))))) (by kernel_rfl) (by kernel_rfl) (t:=86) (by kernel_rfl) (n:=8) (by kernel_rfl)
 ·cases e
end Go.Proofs.YtbpnjicaapldoaaGreatDoor
