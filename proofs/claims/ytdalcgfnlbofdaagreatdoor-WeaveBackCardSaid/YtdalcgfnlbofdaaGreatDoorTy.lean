import Derived.Test.YtdalcgfnlbofdaaGreatDoorLf
import Derived.Test.YtdalcgfnlbofdaaGreatDoorChecked
import Derived.KernelRfl
set_option linter.unusedVariables false
set_option linter.unusedSimpArgs false
namespace Go.Proofs.YtdalcgfnlbofdaaGreatDoor
open Go Go.Lf Go.Proofs
attribute [go_sem] Tryz.underlying0 Tryz.underlying1 Tryz.underlying2 Tryz.underlying3 Tryz.underlying4 Tryz.underlying5 Tryz.underlying6 Tryz.underlying7 Tryz.underlying8 Tryz.underlying9 Tryz.underlying10 Tryz.underlying11 Tryz.underlying12 Tryz.underlying13 Tryz.underlying14 Tryz.underlying15 Tryz.underlying16 Tryz.underlying17 Tryz.underlying18 Tryz.underlying19 Tryz.underlying20 Tryz.underlying21 Tryz.underlying22 Tryz.underlying23 Tryz.underlying24 Tryz.underlying25 Tryz.underlying26 Tryz.underlying27 Tryz.underlying28 Tryz.underlying29 Tryz.underlying30 Tryz.underlying31 Tryz.underlying32 Tryz.underlying33 Tryz.underlying34 Tryz.underlying35 Tryz.underlying36 Tryz.underlying37 Tryz.underlying38 Tryz.underlying39 Tryz.underlying40 Tryz.underlying41 Tryz.underlying42 Tryz.underlying43 Tryz.underlying44 Tryz.underlying45 Tryz.underlying46 Tryz.underlying47 Tryz.underlying48 Tryz.underlying49 Tryz.underlying50 Tryz.underlying51 Tryz.underlying52 Tryz.underlying53 Tryz.underlying54 Tryz.underlying55 Tryz.underlying56 Tryz.underlying57 Tryz.underlying58 Tryz.underlying59 Tryz.underlying60 Tryz.underlying61 Tryz.underlying62 Tryz.underlying63 Tryz.underlying64 Tryz.underlying65 Tryz.underlying66 Tryz.underlying67 Tryz.underlying68 Tryz.underlying69 Tryz.underlying70 Tryz.underlying71 Tryz.underlying72 Tryz.underlying73 Tryz.underlying74 Tryz.underlying75 Tryz.underlying76 Tryz.underlying77 Tryz.underlying78 Tryz.underlying79 Tryz.underlying80 Tryz.underlying81 Tryz.underlying82 Tryz.underlying83 Tryz.underlying84 Tryz.underlying85 Tryz.underlying86 Tryz.underlying87 Tryz.underlying88 Tryz.underlying89 Tryz.underlying90 Tryz.underlying91 Tryz.underlying92 Tryz.underlying93 Tryz.underlying94 Tryz.underlying95 Tryz.underlying96 Tryz.underlying97 Tryz.underlying98 Tryz.underlying99 Tryz.underlying100 Tryz.underlying101 Tryz.underlying102 Tryz.underlying103 Tryz.underlying104 Tryz.underlying105 Tryz.underlying106 Tryz.underlying107 Tryz.underlying108 Tryz.underlying109 Tryz.underlying110 Tryz.underlying111 Tryz.underlying112 Tryz.underlying113 Tryz.underlying114 Tryz.underlying115 Tryz.underlying116 Tryz.underlying117 Tryz.underlying118 Tryz.underlying119 Tryz.underlying120 Tryz.underlying121 Tryz.underlying122 Tryz.underlying123 Tryz.underlying124 Tryz.underlying125 Tryz.underlying126 Tryz.underlying127 Tryz.underlying128 Tryz.underlying129 Tryz.underlying130 Tryz.underlying131 Tryz.underlying132 Tryz.underlying133 Tryz.underlying134 Tryz.underlying135 Tryz.underlying136 Tryz.underlying137 Tryz.underlying138 Tryz.underlying139 Tryz.underlying140 Tryz.underlying141 Tryz.underlying142 Tryz.underlying143 Tryz.underlying144 Tryz.underlying145 Tryz.underlying146 Tryz.underlying147 Tryz.underlying148 Tryz.underlying149 Tryz.underlying150 Tryz.underlying151 Tryz.underlying152 Tryz.underlying153 Tryz.underlying154 Tryz.underlying155 Tryz.underlying156 Tryz.underlying157 Tryz.underlying158 Tryz.underlying159 Tryz.underlying160 Tryz.underlying161 Tryz.underlying162 Tryz.underlying163 Tryz.underlying164 Tryz.underlying165 Tryz.underlying166 Tryz.underlying167 Tryz.underlying168 Tryz.underlying169 Tryz.underlying170 Tryz.underlying171 Tryz.underlying172 Tryz.underlying173 Tryz.underlying174 Tryz.underlying175 Tryz.underlying176 Tryz.underlying177 Tryz.underlying178 Tryz.underlying179 Tryz.underlying180 Tryz.underlying181 Tryz.underlying182 Tryz.underlying183 Tryz.underlying184 Tryz.underlying185 Tryz.underlying186 Tryz.underlying187 Tryz.underlying188 Tryz.underlying189 Tryz.underlying190 Tryz.underlying191 Tryz.underlying192 Tryz.underlying193 Tryz.underlying194 Tryz.underlying195 Tryz.underlying196 Tryz.underlying197 Tryz.underlying198 Tryz.underlying199 Tryz.underlying200 Tryz.underlying201 Tryz.underlying202 Tryz.underlying203 Tryz.underlying204 Tryz.underlying205 Tryz.underlying206 Tryz.underlying207 Tryz.underlying208 Tryz.underlying209 Tryz.underlying210 Tryz.underlying211 Tryz.underlying212 Tryz.underlying213 Tryz.underlying214 Tryz.underlying215 Tryz.underlying216 Tryz.underlying217 Tryz.underlying218 Tryz.underlying219 Tryz.underlying220 Tryz.underlying221 Tryz.underlying222 Tryz.underlying223 Tryz.underlying224 Tryz.underlying225 Tryz.underlying226 Tryz.underlying227 Tryz.underlying228 Tryz.underlying229 Tryz.underlying230 Tryz.underlying231 Tryz.underlying232 Tryz.underlying233 Tryz.underlying234 Tryz.underlying235 Tryz.underlying236 Tryz.underlying237 Tryz.underlying238 Tryz.underlying239 Tryz.underlying240 Tryz.underlying241 Tryz.underlying242 Tryz.underlying243 Tryz.underlying244 Tryz.underlying245 Tryz.underlying246 Tryz.underlying247 Tryz.underlying248 Tryz.underlying249 Tryz.underlying250 Tryz.underlying251 Tryz.underlying252 Tryz.underlying253 Tryz.underlying254 Tryz.underlying255 Tryz.underlying256 Tryz.underlying257 Tryz.underlying258 Tryz.underlying259 Tryz.underlying260 Tryz.underlying261 Tryz.underlying262 Tryz.underlying263 Tryz.underlying264 Tryz.underlying265 Tryz.underlying266 Tryz.underlying267 Tryz.underlying268 Tryz.underlying269 Tryz.underlying270 Tryz.underlying271 Tryz.underlying272 Tryz.underlying273 Tryz.underlying274 Tryz.underlying275 Tryz.underlying276 Tryz.underlying277 Tryz.underlying278 Tryz.underlying279 Tryz.underlying280 Tryz.underlying281 Tryz.underlying282 Tryz.underlying283 Tryz.underlying284 Tryz.underlying285 Tryz.underlying286 Tryz.underlying287 Tryz.underlying288 Tryz.underlying289 Tryz.underlying290 Tryz.underlying291 Tryz.underlying292 Tryz.underlying293 Tryz.underlying294 Tryz.underlying295 Tryz.underlying296 Tryz.underlying297 Tryz.underlying298 Tryz.underlying299 Tryz.underlying300 Tryz.underlying301 Tryz.underlying302 Tryz.underlying303 Tryz.underlying304 Tryz.underlying305 Tryz.underlying306 Tryz.underlying307 Tryz.underlying308 Tryz.underlying309 Tryz.underlying310 Tryz.underlying311 Tryz.underlying312 Tryz.underlying313 Tryz.underlying314 Tryz.underlying315 Tryz.underlying316 Tryz.underlying317 Tryz.underlying318 Tryz.underlying319 Tryz.underlying320 Tryz.underlying321 Tryz.underlying322 Tryz.underlying323 Tryz.underlying324 Tryz.underlying325 Tryz.underlying326 Tryz.underlying327 Tryz.underlying328 Tryz.underlying329 Tryz.underlying330 Tryz.underlying331 Tryz.underlying332 Tryz.underlying333 Tryz.underlying334 Tryz.underlying335 Tryz.underlying336 Tryz.underlying337 Tryz.underlying338 Tryz.underlying339 Tryz.underlying340 Tryz.underlying341 Tryz.underlying342 Tryz.underlying343 Tryz.underlying344 Tryz.underlying345 Tryz.underlying346
@[go_sem] theorem ceq0: Tryz.prog.cellsOf 1=1/\Tryz.prog.cellsOf 2=1/\Tryz.prog.cellsOf 5=1/\Tryz.prog.cellsOf 6=1/\Tryz.prog.cellsOf 7=4/\Tryz.prog.cellsOf 8=4/\Tryz.prog.cellsOf 10=1/\Tryz.prog.cellsOf 11=1/\Tryz.prog.cellsOf 12=1/\Tryz.prog.cellsOf 13=2/\Tryz.prog.cellsOf 14=2/\Tryz.prog.cellsOf 15=1/\Tryz.prog.cellsOf 16=1/\Tryz.prog.cellsOf 17=1/\Tryz.prog.cellsOf 18=1/\Tryz.prog.cellsOf 19=1/\Tryz.prog.cellsOf 20=1/\Tryz.prog.cellsOf 21=1/\Tryz.prog.cellsOf 24=6/\Tryz.prog.cellsOf 25=6/\Tryz.prog.cellsOf 26=1/\Tryz.prog.cellsOf 27=1/\Tryz.prog.cellsOf 28=2/\Tryz.prog.cellsOf 29=2/\Tryz.prog.cellsOf 30=4/\Tryz.prog.cellsOf 31=4/\Tryz.prog.cellsOf 32=1/\Tryz.prog.cellsOf 33=6/\Tryz.prog.cellsOf 34=1/\Tryz.prog.cellsOf 35=1/\Tryz.prog.cellsOf 36=1/\Tryz.prog.cellsOf 37=1/\Tryz.prog.cellsOf 38=1/\Tryz.prog.cellsOf 39=1/\Tryz.prog.cellsOf 40=1/\Tryz.prog.cellsOf 41=1/\Tryz.prog.cellsOf 42=1/\Tryz.prog.cellsOf 44=6/\Tryz.prog.cellsOf 45=6/\Tryz.prog.cellsOf 46=13/\Tryz.prog.cellsOf 48=2/\Tryz.prog.cellsOf 49=2/\Tryz.prog.cellsOf 50=1/\Tryz.prog.cellsOf 52=1/\Tryz.prog.cellsOf 53=1/\Tryz.prog.cellsOf 54=1/\Tryz.prog.cellsOf 56=1/\Tryz.prog.cellsOf 57=1/\Tryz.prog.cellsOf 59=1/\Tryz.prog.cellsOf 60=1/\Tryz.prog.cellsOf 61=1/\Tryz.prog.cellsOf 62=1/\Tryz.prog.cellsOf 63=1/\Tryz.prog.cellsOf 65=1/\Tryz.prog.cellsOf 66=1/\Tryz.prog.cellsOf 67=1/\Tryz.prog.cellsOf 68=1/\Tryz.prog.cellsOf 69=16/\Tryz.prog.cellsOf 70=16/\Tryz.prog.cellsOf 71=1:=by(repeat' apply And.intro)<;>kernel_rfl
@[go_sem] theorem ceq60: Tryz.prog.cellsOf 72=1/\Tryz.prog.cellsOf 74=1/\Tryz.prog.cellsOf 75=1/\Tryz.prog.cellsOf 76=1/\Tryz.prog.cellsOf 77=1/\Tryz.prog.cellsOf 78=1/\Tryz.prog.cellsOf 79=1/\Tryz.prog.cellsOf 80=1/\Tryz.prog.cellsOf 82=1/\Tryz.prog.cellsOf 83=1/\Tryz.prog.cellsOf 85=1/\Tryz.prog.cellsOf 86=1/\Tryz.prog.cellsOf 87=1/\Tryz.prog.cellsOf 88=1/\Tryz.prog.cellsOf 89=1/\Tryz.prog.cellsOf 90=1/\Tryz.prog.cellsOf 91=2/\Tryz.prog.cellsOf 93=1/\Tryz.prog.cellsOf 94=1/\Tryz.prog.cellsOf 95=5/\Tryz.prog.cellsOf 96=5/\Tryz.prog.cellsOf 97=1/\Tryz.prog.cellsOf 98=1/\Tryz.prog.cellsOf 99=1/\Tryz.prog.cellsOf 101=1/\Tryz.prog.cellsOf 102=3/\Tryz.prog.cellsOf 105=1/\Tryz.prog.cellsOf 106=4/\Tryz.prog.cellsOf 107=4/\Tryz.prog.cellsOf 108=1/\Tryz.prog.cellsOf 109=1/\Tryz.prog.cellsOf 110=2/\Tryz.prog.cellsOf 111=1/\Tryz.prog.cellsOf 112=2/\Tryz.prog.cellsOf 113=5/\Tryz.prog.cellsOf 114=5/\Tryz.prog.cellsOf 115=1/\Tryz.prog.cellsOf 117=1/\Tryz.prog.cellsOf 119=1/\Tryz.prog.cellsOf 120=2/\Tryz.prog.cellsOf 121=2/\Tryz.prog.cellsOf 122=4/\Tryz.prog.cellsOf 123=1/\Tryz.prog.cellsOf 124=2/\Tryz.prog.cellsOf 126=1/\Tryz.prog.cellsOf 127=1/\Tryz.prog.cellsOf 129=1/\Tryz.prog.cellsOf 130=1/\Tryz.prog.cellsOf 132=4/\Tryz.prog.cellsOf 134=1/\Tryz.prog.cellsOf 135=1/\Tryz.prog.cellsOf 136=2/\Tryz.prog.cellsOf 137=3/\Tryz.prog.cellsOf 138=3/\Tryz.prog.cellsOf 140=1/\Tryz.prog.cellsOf 141=1/\Tryz.prog.cellsOf 142=4/\Tryz.prog.cellsOf 144=4/\Tryz.prog.cellsOf 145=1/\Tryz.prog.cellsOf 146=1:=by(repeat' apply And.intro)<;>kernel_rfl
@[go_sem] theorem ceq120: Tryz.prog.cellsOf 147=1/\Tryz.prog.cellsOf 148=1/\Tryz.prog.cellsOf 149=3/\Tryz.prog.cellsOf 150=3/\Tryz.prog.cellsOf 151=1/\Tryz.prog.cellsOf 152=1/\Tryz.prog.cellsOf 153=1/\Tryz.prog.cellsOf 154=1/\Tryz.prog.cellsOf 155=1/\Tryz.prog.cellsOf 157=1/\Tryz.prog.cellsOf 158=1/\Tryz.prog.cellsOf 160=1/\Tryz.prog.cellsOf 161=1/\Tryz.prog.cellsOf 162=1/\Tryz.prog.cellsOf 163=1/\Tryz.prog.cellsOf 165=1/\Tryz.prog.cellsOf 166=1/\Tryz.prog.cellsOf 167=1/\Tryz.prog.cellsOf 168=1/\Tryz.prog.cellsOf 169=1/\Tryz.prog.cellsOf 170=2/\Tryz.prog.cellsOf 171=2/\Tryz.prog.cellsOf 172=1/\Tryz.prog.cellsOf 173=1/\Tryz.prog.cellsOf 174=1/\Tryz.prog.cellsOf 176=1/\Tryz.prog.cellsOf 178=1/\Tryz.prog.cellsOf 179=16/\Tryz.prog.cellsOf 180=16/\Tryz.prog.cellsOf 181=1/\Tryz.prog.cellsOf 183=1/\Tryz.prog.cellsOf 184=1/\Tryz.prog.cellsOf 185=1/\Tryz.prog.cellsOf 187=1/\Tryz.prog.cellsOf 188=1/\Tryz.prog.cellsOf 189=1/\Tryz.prog.cellsOf 190=1/\Tryz.prog.cellsOf 192=1/\Tryz.prog.cellsOf 193=1/\Tryz.prog.cellsOf 194=1/\Tryz.prog.cellsOf 195=7/\Tryz.prog.cellsOf 196=7/\Tryz.prog.cellsOf 198=1/\Tryz.prog.cellsOf 199=1/\Tryz.prog.cellsOf 201=1/\Tryz.prog.cellsOf 202=1/\Tryz.prog.cellsOf 203=1/\Tryz.prog.cellsOf 204=1/\Tryz.prog.cellsOf 205=1/\Tryz.prog.cellsOf 206=1/\Tryz.prog.cellsOf 207=1/\Tryz.prog.cellsOf 208=10/\Tryz.prog.cellsOf 209=1/\Tryz.prog.cellsOf 210=1/\Tryz.prog.cellsOf 211=1/\Tryz.prog.cellsOf 212=1/\Tryz.prog.cellsOf 213=1/\Tryz.prog.cellsOf 214=1/\Tryz.prog.cellsOf 215=1/\Tryz.prog.cellsOf 216=2:=by(repeat' apply And.intro)<;>kernel_rfl
@[go_sem] theorem ceq180: Tryz.prog.cellsOf 217=2/\Tryz.prog.cellsOf 218=1/\Tryz.prog.cellsOf 219=1/\Tryz.prog.cellsOf 220=1/\Tryz.prog.cellsOf 221=1/\Tryz.prog.cellsOf 222=1/\Tryz.prog.cellsOf 224=1/\Tryz.prog.cellsOf 225=1/\Tryz.prog.cellsOf 226=1/\Tryz.prog.cellsOf 227=1/\Tryz.prog.cellsOf 229=1/\Tryz.prog.cellsOf 230=1/\Tryz.prog.cellsOf 232=1/\Tryz.prog.cellsOf 233=1/\Tryz.prog.cellsOf 234=2/\Tryz.prog.cellsOf 235=2/\Tryz.prog.cellsOf 237=1/\Tryz.prog.cellsOf 238=1/\Tryz.prog.cellsOf 239=3/\Tryz.prog.cellsOf 240=3/\Tryz.prog.cellsOf 241=1/\Tryz.prog.cellsOf 242=1/\Tryz.prog.cellsOf 243=2/\Tryz.prog.cellsOf 244=2/\Tryz.prog.cellsOf 246=1/\Tryz.prog.cellsOf 247=1/\Tryz.prog.cellsOf 248=1/\Tryz.prog.cellsOf 249=1/\Tryz.prog.cellsOf 250=1/\Tryz.prog.cellsOf 252=1/\Tryz.prog.cellsOf 254=1/\Tryz.prog.cellsOf 256=1/\Tryz.prog.cellsOf 257=1/\Tryz.prog.cellsOf 258=1/\Tryz.prog.cellsOf 259=1/\Tryz.prog.cellsOf 260=1/\Tryz.prog.cellsOf 261=1/\Tryz.prog.cellsOf 262=1/\Tryz.prog.cellsOf 263=2/\Tryz.prog.cellsOf 264=2/\Tryz.prog.cellsOf 265=7/\Tryz.prog.cellsOf 266=7/\Tryz.prog.cellsOf 267=1/\Tryz.prog.cellsOf 268=1/\Tryz.prog.cellsOf 269=1/\Tryz.prog.cellsOf 270=1/\Tryz.prog.cellsOf 271=1/\Tryz.prog.cellsOf 272=1/\Tryz.prog.cellsOf 273=1/\Tryz.prog.cellsOf 274=1/\Tryz.prog.cellsOf 275=1/\Tryz.prog.cellsOf 276=1/\Tryz.prog.cellsOf 277=3/\Tryz.prog.cellsOf 278=3/\Tryz.prog.cellsOf 280=1/\Tryz.prog.cellsOf 281=1/\Tryz.prog.cellsOf 282=1/\Tryz.prog.cellsOf 283=1/\Tryz.prog.cellsOf 284=1/\Tryz.prog.cellsOf 285=1:=by(repeat' apply And.intro)<;>kernel_rfl
@[go_sem] theorem ceq240: Tryz.prog.cellsOf 286=2/\Tryz.prog.cellsOf 289=1/\Tryz.prog.cellsOf 290=1/\Tryz.prog.cellsOf 291=1/\Tryz.prog.cellsOf 292=1/\Tryz.prog.cellsOf 293=1/\Tryz.prog.cellsOf 294=1/\Tryz.prog.cellsOf 295=1/\Tryz.prog.cellsOf 296=1/\Tryz.prog.cellsOf 297=1/\Tryz.prog.cellsOf 298=1/\Tryz.prog.cellsOf 299=1/\Tryz.prog.cellsOf 301=1/\Tryz.prog.cellsOf 303=1/\Tryz.prog.cellsOf 304=1/\Tryz.prog.cellsOf 305=1/\Tryz.prog.cellsOf 306=1/\Tryz.prog.cellsOf 307=1/\Tryz.prog.cellsOf 309=1/\Tryz.prog.cellsOf 310=1/\Tryz.prog.cellsOf 311=1/\Tryz.prog.cellsOf 312=1/\Tryz.prog.cellsOf 313=1/\Tryz.prog.cellsOf 314=2/\Tryz.prog.cellsOf 315=2/\Tryz.prog.cellsOf 316=1/\Tryz.prog.cellsOf 317=1/\Tryz.prog.cellsOf 318=1/\Tryz.prog.cellsOf 319=1/\Tryz.prog.cellsOf 320=2/\Tryz.prog.cellsOf 321=28/\Tryz.prog.cellsOf 322=1/\Tryz.prog.cellsOf 323=47/\Tryz.prog.cellsOf 324=1/\Tryz.prog.cellsOf 325=257/\Tryz.prog.cellsOf 326=31/\Tryz.prog.cellsOf 327=352/\Tryz.prog.cellsOf 328=352/\Tryz.prog.cellsOf 329=1/\Tryz.prog.cellsOf 330=2/\Tryz.prog.cellsOf 331=2/\Tryz.prog.cellsOf 332=1/\Tryz.prog.cellsOf 333=4/\Tryz.prog.cellsOf 334=4/\Tryz.prog.cellsOf 335=0/\Tryz.prog.cellsOf 336=0/\Tryz.prog.cellsOf 337=0/\Tryz.prog.cellsOf 338=1/\Tryz.prog.cellsOf 339=1/\Tryz.prog.cellsOf 340=1/\Tryz.prog.cellsOf 341=1/\Tryz.prog.cellsOf 342=1/\Tryz.prog.cellsOf 343=1/\Tryz.prog.cellsOf 344=11/\Tryz.prog.cellsOf 345=11/\Tryz.prog.cellsOf 346=1:=by(repeat' apply And.intro)<;>kernel_rfl
abbrev Zv(P:Program)(t:Nat):=(P.info? t).bind (fun i=>i.zero.map fun z=>z.cells.toList)
abbrev Zc(v:Value):=some (Value.cells v).toList
theorem eT{p:Prop}(h:p:=by exact⟨by kernel_rfl,rfl,by decide⟩): p:=h
theorem bT3{p:Prop}(h:p:=by exact⟨by kernel_rfl,by kernel_rfl,by kernel_rfl⟩): p:=h
abbrev V321x: Value:=Value.agg #[.string ⟨#[]⟩,.string ⟨#[]⟩,.string ⟨#[]⟩,.string ⟨#[]⟩,.string ⟨#[]⟩,.string ⟨#[]⟩,.string ⟨#[]⟩,.string ⟨#[]⟩,.string ⟨#[]⟩,.string ⟨#[]⟩,.string ⟨#[]⟩,.string ⟨#[]⟩,.string ⟨#[]⟩,.string ⟨#[]⟩,.string ⟨#[]⟩,.string ⟨#[]⟩,.string ⟨#[]⟩,.string ⟨#[]⟩,.string ⟨#[]⟩,.string ⟨#[]⟩,.string ⟨#[]⟩,.string ⟨#[]⟩,.string ⟨#[]⟩,.string ⟨#[]⟩,.string ⟨#[]⟩,.string ⟨#[]⟩,.string ⟨#[]⟩,.string ⟨#[]⟩]
abbrev V323x: Value:=Value.agg #[.string ⟨#[]⟩,.string ⟨#[]⟩,.string ⟨#[]⟩,.string ⟨#[]⟩,.string ⟨#[]⟩,.string ⟨#[]⟩,.string ⟨#[]⟩,.string ⟨#[]⟩,.string ⟨#[]⟩,.string ⟨#[]⟩,.string ⟨#[]⟩,.string ⟨#[]⟩,.string ⟨#[]⟩,.string ⟨#[]⟩,.string ⟨#[]⟩,.string ⟨#[]⟩,.string ⟨#[]⟩,.string ⟨#[]⟩,.string ⟨#[]⟩,.string ⟨#[]⟩,.string ⟨#[]⟩,.string ⟨#[]⟩,.string ⟨#[]⟩,.string ⟨#[]⟩,.string ⟨#[]⟩,.string ⟨#[]⟩,.string ⟨#[]⟩,.string ⟨#[]⟩,.string ⟨#[]⟩,.string ⟨#[]⟩,.string ⟨#[]⟩,.string ⟨#[]⟩,.string ⟨#[]⟩,.string ⟨#[]⟩,.string ⟨#[]⟩,.string ⟨#[]⟩,.string ⟨#[]⟩,.string ⟨#[]⟩,.string ⟨#[]⟩,.string ⟨#[]⟩,.string ⟨#[]⟩,.string ⟨#[]⟩,.string ⟨#[]⟩,.string ⟨#[]⟩,.string ⟨#[]⟩,.string ⟨#[]⟩,.string ⟨#[]⟩]
abbrev V325x: Value:=Value.agg (([.int .i64 0,.int .i64 0,.int .i64 0,.int .i64 0,.int .i64 0,.int .i64 0,.int .i64 0,.int .i64 0,.int .i64 0,.int .i64 0,.int .i64 0,.int .i64 0,.int .i64 0,.int .i64 0,.int .i64 0,.int .i64 0,.int .i64 0,.int .i64 0,.int .i64 0,.int .i64 0,.int .i64 0,.int .i64 0,.int .i64 0,.int .i64 0,.int .i64 0,.int .i64 0,.int .i64 0,.int .i64 0,.int .i64 0,.int .i64 0,.int .i64 0,.int .i64 0,.int .i64 0,.int .i64 0,.int .i64 0,.int .i64 0,.int .i64 0,.int .i64 0,.int .i64 0,.int .i64 0,.int .i64 0,.int .i64 0,.int .i64 0,.int .i64 0,.int .i64 0,.int .i64 0,.int .i64 0,.int .i64 0,.int .i64 0,.int .i64 0,.int .i64 0,.int .i64 0,.int .i64 0,.int .i64 0,.int .i64 0,.int .i64 0,.int .i64 0,.int .i64 0,.int .i64 0,.int .i64 0,.int .i64 0,.int .i64 0,.int .i64 0,.int .i64 0].append [.int .i64 0,.int .i64 0,.int .i64 0,.int .i64 0,.int .i64 0,.int .i64 0,.int .i64 0,.int .i64 0,.int .i64 0,.int .i64 0,.int .i64 0,.int .i64 0,.int .i64 0,.int .i64 0,.int .i64 0,.int .i64 0,.int .i64 0,.int .i64 0,.int .i64 0,.int .i64 0,.int .i64 0,.int .i64 0,.int .i64 0,.int .i64 0,.int .i64 0,.int .i64 0,.int .i64 0,.int .i64 0,.int .i64 0,.int .i64 0,.int .i64 0,.int .i64 0,.int .i64 0,.int .i64 0,.int .i64 0,.int .i64 0,.int .i64 0,.int .i64 0,.int .i64 0,.int .i64 0,.int .i64 0,.int .i64 0,.int .i64 0,.int .i64 0,.int .i64 0,.int .i64 0,.int .i64 0,.int .i64 0,.int .i64 0,.int .i64 0,.int .i64 0,.int .i64 0,.int .i64 0,.int .i64 0,.int .i64 0,.int .i64 0,.int .i64 0,.int .i64 0,.int .i64 0,.int .i64 0,.int .i64 0,.int .i64 0,.int .i64 0,.int .i64 0]).append ([.int .i64 0,.int .i64 0,.int .i64 0,.int .i64 0,.int .i64 0,.int .i64 0,.int .i64 0,.int .i64 0,.int .i64 0,.int .i64 0,.int .i64 0,.int .i64 0,.int .i64 0,.int .i64 0,.int .i64 0,.int .i64 0,.int .i64 0,.int .i64 0,.int .i64 0,.int .i64 0,.int .i64 0,.int .i64 0,.int .i64 0,.int .i64 0,.int .i64 0,.int .i64 0,.int .i64 0,.int .i64 0,.int .i64 0,.int .i64 0,.int .i64 0,.int .i64 0,.int .i64 0,.int .i64 0,.int .i64 0,.int .i64 0,.int .i64 0,.int .i64 0,.int .i64 0,.int .i64 0,.int .i64 0,.int .i64 0,.int .i64 0,.int .i64 0,.int .i64 0,.int .i64 0,.int .i64 0,.int .i64 0,.int .i64 0,.int .i64 0,.int .i64 0,.int .i64 0,.int .i64 0,.int .i64 0,.int .i64 0,.int .i64 0,.int .i64 0,.int .i64 0,.int .i64 0,.int .i64 0,.int .i64 0,.int .i64 0,.int .i64 0,.int .i64 0].append ([.int .i64 0,.int .i64 0,.int .i64 0,.int .i64 0,.int .i64 0,.int .i64 0,.int .i64 0,.int .i64 0,.int .i64 0,.int .i64 0,.int .i64 0,.int .i64 0,.int .i64 0,.int .i64 0,.int .i64 0,.int .i64 0,.int .i64 0,.int .i64 0,.int .i64 0,.int .i64 0,.int .i64 0,.int .i64 0,.int .i64 0,.int .i64 0,.int .i64 0,.int .i64 0,.int .i64 0,.int .i64 0,.int .i64 0,.int .i64 0,.int .i64 0,.int .i64 0].append [.int .i64 0,.int .i64 0,.int .i64 0,.int .i64 0,.int .i64 0,.int .i64 0,.int .i64 0,.int .i64 0,.int .i64 0,.int .i64 0,.int .i64 0,.int .i64 0,.int .i64 0,.int .i64 0,.int .i64 0,.int .i64 0,.int .i64 0,.int .i64 0,.int .i64 0,.int .i64 0,.int .i64 0,.int .i64 0,.int .i64 0,.int .i64 0,.int .i64 0,.int .i64 0,.int .i64 0,.int .i64 0,.int .i64 0,.int .i64 0,.int .i64 0,.int .i64 0,.int .i64 0]))).toArray
abbrev V328x: Value:=Value.agg ((([.bool false,.int .i64 0,.int .i64 0,.int .i64 0,.int .i64 0,.int .i64 0,.int .i64 0,.int .i64 0,.int .i64 0,.int .i64 0,.int .i64 0,.int .i64 0,.int .i64 0,.int .i64 0,.int .i64 0,.int .i64 0,.int .i64 0,.int .i64 0,.int .i64 0,.int .i64 0,.int .i64 0,.int .i64 0,.int .i64 0,.int .i64 0,.int .i64 0,.int .i64 0,.int .i64 0,.int .i64 0,.int .i64 0,.int .i64 0,.int .i64 0,.int .i64 0,.int .i64 0,.int .i64 0,.int .i64 0,.int .i64 0,.int .i64 0,.int .i64 0,.int .i64 0,.int .i64 0,.int .i64 0,.int .i64 0,.int .i64 0,.int .i64 0].append [.int .i64 0,.int .i64 0,.int .i64 0,.int .i64 0,.int .i64 0,.int .i64 0,.int .i64 0,.int .i64 0,.int .i64 0,.int .i64 0,.int .i64 0,.int .i64 0,.int .i64 0,.int .i64 0,.int .i64 0,.int .i64 0,.int .i64 0,.int .i64 0,.int .i64 0,.int .i64 0,.int .i64 0,.int .i64 0,.int .i64 0,.int .i64 0,.int .i64 0,.int .i64 0,.int .i64 0,.int .i64 0,.int .i64 0,.int .i64 0,.int .i64 0,.int .i64 0,.int .i64 0,.int .i64 0,.int .i64 0,.int .i64 0,.int .i64 0,.int .i64 0,.int .i64 0,.int .i64 0,.int .i64 0,.int .i64 0,.int .i64 0,.int .i64 0]).append ([.int .i64 0,.int .i64 0,.int .i64 0,.int .i64 0,.int .i64 0,.int .i64 0,.int .i64 0,.int .i64 0,.int .i64 0,.int .i64 0,.int .i64 0,.int .i64 0,.int .i64 0,.int .i64 0,.int .i64 0,.int .i64 0,.int .i64 0,.int .i64 0,.int .i64 0,.int .i64 0,.int .i64 0,.int .i64 0,.int .i64 0,.int .i64 0,.int .i64 0,.int .i64 0,.int .i64 0,.int .i64 0,.int .i64 0,.int .i64 0,.int .i64 0,.int .i64 0,.int .i64 0,.int .i64 0,.int .i64 0,.int .i64 0,.int .i64 0,.int .i64 0,.int .i64 0,.int .i64 0,.int .i64 0,.int .i64 0,.int .i64 0,.int .i64 0].append [.int .i64 0,.int .i64 0,.int .i64 0,.int .i64 0,.int .i64 0,.int .i64 0,.int .i64 0,.int .i64 0,.int .i64 0,.int .i64 0,.int .i64 0,.int .i64 0,.int .i64 0,.int .i64 0,.int .i64 0,.int .i64 0,.int .i64 0,.int .i64 0,.int .i64 0,.int .i64 0,.int .i64 0,.int .i64 0,.int .i64 0,.int .i64 0,.int .i64 0,.int .i64 0,.int .i64 0,.int .i64 0,.int .i64 0,.int .i64 0,.int .i64 0,.int .i64 0,.int .i64 0,.int .i64 0,.int .i64 0,.int .i64 0,.int .i64 0,.int .i64 0,.int .i64 0,.int .i64 0,.int .i64 0,.int .i64 0,.int .i64 0,.int .i64 0])).append (([.int .i64 0,.int .i64 0,.int .i64 0,.int .i64 0,.int .i64 0,.int .i64 0,.int .i64 0,.int .i64 0,.int .i64 0,.int .i64 0,.int .i64 0,.int .i64 0,.int .i64 0,.int .i64 0,.int .i64 0,.int .i64 0,.int .i64 0,.int .i64 0,.int .i64 0,.int .i64 0,.int .i64 0,.int .i64 0,.int .i64 0,.int .i64 0,.int .i64 0,.int .i64 0,.int .i64 0,.int .i64 0,.int .i64 0,.int .i64 0,.int .i64 0,.int .i64 0,.int .i64 0,.int .i64 0,.int .i64 0,.int .i64 0,.int .i64 0,.int .i64 0,.int .i64 0,.int .i64 0,.int .i64 0,.int .i64 0,.int .i64 0,.int .i64 0].append [.int .i64 0,.int .i64 0,.int .i64 0,.int .i64 0,.int .i64 0,.int .i64 0,.int .i64 0,.int .i64 0,.int .i64 0,.int .i64 0,.int .i64 0,.int .i64 0,.int .i64 0,.int .i64 0,.int .i64 0,.int .i64 0,.int .i64 0,.int .i64 0,.int .i64 0,.int .i64 0,.int .i64 0,.int .i64 0,.int .i64 0,.int .i64 0,.int .i64 0,.int .i64 0,.int .i64 0,.int .i64 0,.int .i64 0,.int .i64 0,.int .i64 0,.int .i64 0,.int .i64 0,.int .i64 0,.int .i64 0,.int .i64 0,.int .i64 0,.int .i64 0,Value.slice none 0 0,.int .i64 0,.int .i64 0,.int .i64 0,.int .i64 0,.int .i64 0]).append ([.int .i64 0,.int .i64 0,.int .i64 0,.int .i64 0,.int .i64 0,.int .i64 0,.int .i64 0,.int .i64 0,.int .i64 0,.int .i64 0,.int .i64 0,.int .i64 0,.int .i64 0,.int .i64 0,.int .i64 0,.int .i64 0,.int .i64 0,.int .i64 0,.int .i64 0,.int .i64 0,.int .i64 0,.int .i64 0,.int .i64 0,.int .i64 0,.int .i64 0,.int .i64 0,.int .i64 0,.int .i64 0,.int .i64 0,.int .i64 0,.int .i64 0,.int .i64 0,.int .i64 0,.int .i64 0,.int .i64 0,.int .i64 0,.int .i64 0,.int .i64 0,.int .i64 0,.int .i64 0,.int .i64 0,.int .i64 0,.int .i64 0,.int .i64 0].append [.int .i64 0,.int .i64 0,.int .i64 0,.int .i64 0,.int .i64 0,.int .i64 0,.int .i64 0,.int .i64 0,.int .i64 0,.int .i64 0,.int .i64 0,.int .i64 0,.int .i64 0,.int .i64 0,.int .i64 0,.int .i64 0,.int .i64 0,.int .i64 0,.int .i64 0,.int .i64 0,.int .i64 0,.int .i64 0,.int .i64 0,.int .i64 0,.int .i64 0,.int .i64 0,.int .i64 0,.int .i64 0,.int .i64 0,.int .i64 0,.int .i64 0,.int .i64 0,.int .i64 0,.int .i64 0,.int .i64 0,.int .i64 0,.int .i64 0,.int .i64 0,.int .i64 0,.int .i64 0,.int .i64 0,.int .i64 0,.int .i64 0,.int .i64 0]))).toArray
theorem mixed: Tryz.prog.follows .mixedOrders=true:=Tryz.checked.mixed
@[go_sem] theorem ce3: Tryz.prog.cellsOf 3=1:=by kernel_rfl
theorem zv3: Zv Tryz.prog 3=Zc (.int .i64 0):=by kernel_rfl
theorem eo3: EO Tryz.prog 3 1 8 (.int .i64 0):=eT
@[go_sem] theorem ce4: Tryz.prog.cellsOf 4=1:=by kernel_rfl
theorem zv4: Zv Tryz.prog 4=Zc (.bool false):=by kernel_rfl
theorem eo4: EO Tryz.prog 4 1 1 (.bool false):=eT
theorem zv5: Zv Tryz.prog 5=Zc (.int .u8 0):=by kernel_rfl
theorem eo5: EO Tryz.prog 5 1 1 (.int .u8 0):=eT
@[go_sem] theorem ce9: Tryz.prog.cellsOf 9=1:=by kernel_rfl
theorem zv9: Zv Tryz.prog 9=Zc (.string ⟨#[]⟩):=by kernel_rfl
theorem eo9: EO Tryz.prog 9 1 16 (.string ⟨#[]⟩):=eT
@[go_sem] theorem zz5: Tryz.prog.cellsOf 22=1:=by kernel_rfl
theorem zwY: Zv Tryz.prog 22=Zc (Value.slice none 0 0):=by kernel_rfl
theorem zz6: EO Tryz.prog 22 1 24 (Value.slice none 0 0):=eT
@[go_sem] theorem zz7: Tryz.prog.cellsOf 23=1:=by kernel_rfl
theorem zzj: Zv Tryz.prog 23=Zc (Value.slice none 0 0):=by kernel_rfl
theorem zz8: EO Tryz.prog 23 1 24 (Value.slice none 0 0):=eT
@[go_sem] theorem zE5: Tryz.prog.stoodInHeld 25=false:=by kernel_rfl
@[go_sem] theorem zFa: Tryz.prog.stoodInHeld 29=false:=by kernel_rfl
@[go_sem] theorem zFd: Tryz.prog.stoodInHeld 31=false:=by kernel_rfl
@[go_sem] theorem zFg: Tryz.prog.stoodInHeld 33=false:=by kernel_rfl
theorem zzk: Zv Tryz.prog 35=Zc (Value.slice none 0 0):=by kernel_rfl
theorem zz9: EO Tryz.prog 35 1 24 (Value.slice none 0 0):=eT
@[go_sem] theorem zAa: Tryz.prog.cellsOf 43=1:=by kernel_rfl
theorem zzl: Zv Tryz.prog 43=Zc (Value.slice none 0 0):=by kernel_rfl
theorem zAb: EO Tryz.prog 43 1 24 (Value.slice none 0 0):=eT
theorem zzm: Zv Tryz.prog 45=Zc (Value.agg #[.int .i64 0,.int .i64 0,.int .i64 0,.int .i64 0,.bool false,Value.slice none 0 0]):=by kernel_rfl
theorem zAc: EO Tryz.prog 45 6 64 (Value.agg #[.int .i64 0,.int .i64 0,.int .i64 0,.int .i64 0,.bool false,Value.slice none 0 0]):=eT
theorem zvU: BD Tryz.prog 45 (Value.cells (Value.agg #[.int .i64 0,.int .i64 0,.int .i64 0,.int .i64 0,.bool false,Value.slice none 0 0])).toList [(0,1),(1,1),(2,1),(3,1),(4,1),(5,1)]:=bT3
@[go_sem] theorem zFs: Tryz.prog.stoodInHeld 45=false:=by kernel_rfl
theorem k8: Tryz.prog.eqGuardType Tryz.prog.depth 45=false:=by kernel_rfl
@[go_sem] theorem zzn: Tryz.prog.cellsOf 47=13:=by kernel_rfl
theorem zga: Zv Tryz.prog 47=Zc (Value.agg #[.int .i64 0,.int .i64 0,.int .i64 0,.int .i64 0,Value.slice none 0 0,Value.slice none 0 0,.int .i64 0,.int .i64 0,.bool false,.int .i64 0,.int .i64 0,.int .i64 0,.int .i64 0]):=by kernel_rfl
theorem zAd: EO Tryz.prog 47 13 136 (Value.agg #[.int .i64 0,.int .i64 0,.int .i64 0,.int .i64 0,Value.slice none 0 0,Value.slice none 0 0,.int .i64 0,.int .i64 0,.bool false,.int .i64 0,.int .i64 0,.int .i64 0,.int .i64 0]):=eT
theorem zrS: BD Tryz.prog 47 (Value.cells (Value.agg #[.int .i64 0,.int .i64 0,.int .i64 0,.int .i64 0,Value.slice none 0 0,Value.slice none 0 0,.int .i64 0,.int .i64 0,.bool false,.int .i64 0,.int .i64 0,.int .i64 0,.int .i64 0])).toList [(0,1),(1,1),(2,1),(3,1),(4,1),(5,1),(6,1),(7,1),(8,1),(9,1),(10,1),(11,1),(12,1)]:=bT3
@[go_sem] theorem zFu: Tryz.prog.stoodInHeld 47=false:=by kernel_rfl
theorem ky: Tryz.prog.eqGuardType Tryz.prog.depth 47=false:=by kernel_rfl
theorem zzo: Zv Tryz.prog 49=Zc (Value.agg #[.int .i64 0,.int .i64 0]):=by kernel_rfl
theorem zAe: EO Tryz.prog 49 2 16 (Value.agg #[.int .i64 0,.int .i64 0]):=eT
theorem zvV: BD Tryz.prog 49 (Value.cells (Value.agg #[.int .i64 0,.int .i64 0])).toList [(0,1),(1,1)]:=bT3
@[go_sem] theorem zFx: Tryz.prog.stoodInHeld 49=false:=by kernel_rfl
theorem k9: Tryz.prog.eqGuardType Tryz.prog.depth 49=false:=by kernel_rfl
theorem zzp: Zv Tryz.prog 50=Zc (.int .i64 0):=by kernel_rfl
theorem zAf: EO Tryz.prog 50 1 8 (.int .i64 0):=eT
theorem zzq: Zv Tryz.prog 54=Zc (Value.slice none 0 0):=by kernel_rfl
theorem zAg: EO Tryz.prog 54 1 24 (Value.slice none 0 0):=eT
theorem zzr: Zv Tryz.prog 57=Zc (Value.slice none 0 0):=by kernel_rfl
theorem zAh: EO Tryz.prog 57 1 24 (Value.slice none 0 0):=eT
theorem zzs: Zv Tryz.prog 62=Zc (Value.slice none 0 0):=by kernel_rfl
theorem zAi: EO Tryz.prog 62 1 24 (Value.slice none 0 0):=eT
theorem zzt: Zv Tryz.prog 67=Zc (Value.slice none 0 0):=by kernel_rfl
theorem zAj: EO Tryz.prog 67 1 24 (Value.slice none 0 0):=eT
theorem zzu: Zv Tryz.prog 70=Zc (Value.agg #[.int .i64 0,.int .i64 0,.int .i64 0,.int .i64 0,.int .i64 0,Value.slice none 0 0,Value.slice none 0 0,.int .i64 0,.int .i64 0,.bool false,.int .i64 0,.int .i64 0,.int .i64 0,.int .i64 0,.bool false,Value.slice none 0 0]):=by kernel_rfl
theorem zAk: EO Tryz.prog 70 16 176 (Value.agg #[.int .i64 0,.int .i64 0,.int .i64 0,.int .i64 0,.int .i64 0,Value.slice none 0 0,Value.slice none 0 0,.int .i64 0,.int .i64 0,.bool false,.int .i64 0,.int .i64 0,.int .i64 0,.int .i64 0,.bool false,Value.slice none 0 0]):=eT
theorem zrT: BD Tryz.prog 70 (Value.cells (Value.agg #[.int .i64 0,.int .i64 0,.int .i64 0,.int .i64 0,.int .i64 0,Value.slice none 0 0,Value.slice none 0 0,.int .i64 0,.int .i64 0,.bool false,.int .i64 0,.int .i64 0,.int .i64 0,.int .i64 0,.bool false,Value.slice none 0 0])).toList [(0,1),(1,13),(14,1),(15,1)]:=bT3
@[go_sem] theorem zFP: Tryz.prog.stoodInHeld 70=false:=by kernel_rfl
theorem zae: Tryz.prog.eqGuardType Tryz.prog.depth 70=false:=by kernel_rfl
@[go_sem] theorem zAl: Tryz.prog.cellsOf 73=16:=by kernel_rfl
theorem zzv: Zv Tryz.prog 73=Zc (Value.agg #[.int .i64 0,.int .i64 0,.int .i64 0,.int .i64 0,.int .i64 0,Value.slice none 0 0,Value.slice none 0 0,.int .i64 0,.int .i64 0,.bool false,.int .i64 0,.int .i64 0,.int .i64 0,.int .i64 0,.bool false,Value.slice none 0 0]):=by kernel_rfl
theorem zAm: EO Tryz.prog 73 16 176 (Value.agg #[.int .i64 0,.int .i64 0,.int .i64 0,.int .i64 0,.int .i64 0,Value.slice none 0 0,Value.slice none 0 0,.int .i64 0,.int .i64 0,.bool false,.int .i64 0,.int .i64 0,.int .i64 0,.int .i64 0,.bool false,Value.slice none 0 0]):=eT
theorem zzw: BD Tryz.prog 73 (Value.cells (Value.agg #[.int .i64 0,.int .i64 0,.int .i64 0,.int .i64 0,.int .i64 0,Value.slice none 0 0,Value.slice none 0 0,.int .i64 0,.int .i64 0,.bool false,.int .i64 0,.int .i64 0,.int .i64 0,.int .i64 0,.bool false,Value.slice none 0 0])).toList [(0,1),(1,13),(14,1),(15,1)]:=bT3
@[go_sem] theorem zFS: Tryz.prog.stoodInHeld 73=false:=by kernel_rfl
@[go_sem] theorem zAn: Tryz.prog.cellsOf 92=2:=by kernel_rfl
theorem zzx: Zv Tryz.prog 92=Zc (Value.agg #[.int .i64 0,.int .i64 0]):=by kernel_rfl
theorem zAo: EO Tryz.prog 92 2 16 (Value.agg #[.int .i64 0,.int .i64 0]):=eT
theorem zrU: BD Tryz.prog 92 (Value.cells (Value.agg #[.int .i64 0,.int .i64 0])).toList [(0,1),(1,1)]:=bT3
@[go_sem] theorem zF9: Tryz.prog.stoodInHeld 92=false:=by kernel_rfl
theorem ki: Tryz.prog.eqGuardType Tryz.prog.depth 92=false:=by kernel_rfl
theorem zzy: Zv Tryz.prog 96=Zc (Value.agg #[.int .i64 0,.int .i64 0,.int .i64 0,.int .i64 0,.bool false]):=by kernel_rfl
theorem zzz: BD Tryz.prog 96 (Value.cells (Value.agg #[.int .i64 0,.int .i64 0,.int .i64 0,.int .i64 0,.bool false])).toList [(0,1),(1,1),(2,1),(3,1),(4,1)]:=bT3
@[go_sem] theorem zGe: Tryz.prog.stoodInHeld 96=false:=by kernel_rfl
@[go_sem] theorem zwZ: Tryz.prog.cellsOf 103=3:=by kernel_rfl
theorem ziQ: Zv Tryz.prog 103=Zc (Value.agg #[.string ⟨#[]⟩,.string ⟨#[]⟩,.bool false]):=by kernel_rfl
theorem zw0: EO Tryz.prog 103 3 40 (Value.agg #[.string ⟨#[]⟩,.string ⟨#[]⟩,.bool false]):=eT
theorem zby: BD Tryz.prog 103 (Value.cells (Value.agg #[.string ⟨#[]⟩,.string ⟨#[]⟩,.bool false])).toList [(0,1),(1,1),(2,1)]:=bT3
@[go_sem] theorem zAr: Tryz.prog.stoodInHeld 103=false:=by kernel_rfl
theorem yC: Tryz.prog.eqGuardType Tryz.prog.depth 103=false:=by kernel_rfl
@[go_sem] theorem zw1: Tryz.prog.cellsOf 104=1:=by kernel_rfl
theorem zs4: Zv Tryz.prog 104=Zc (Value.slice none 0 0):=by kernel_rfl
theorem zw2: EO Tryz.prog 104 1 24 (Value.slice none 0 0):=eT
theorem zs5: Zv Tryz.prog 105=Zc (Value.slice none 0 0):=by kernel_rfl
theorem zw3: EO Tryz.prog 105 1 24 (Value.slice none 0 0):=eT
theorem zs6: Zv Tryz.prog 107=Zc (Value.agg #[Value.slice none 0 0,Value.slice none 0 0,Value.slice none 0 0,.int .i64 0]):=by kernel_rfl
theorem zw4: EO Tryz.prog 107 4 80 (Value.agg #[Value.slice none 0 0,Value.slice none 0 0,Value.slice none 0 0,.int .i64 0]):=eT
theorem zs7: BD Tryz.prog 107 (Value.cells (Value.agg #[Value.slice none 0 0,Value.slice none 0 0,Value.slice none 0 0,.int .i64 0])).toList [(0,1),(1,1),(2,1),(3,1)]:=bT3
@[go_sem] theorem zAv: Tryz.prog.stoodInHeld 107=false:=by kernel_rfl
theorem zs8: Zv Tryz.prog 108=Zc (.pointer none):=by kernel_rfl
theorem zw5: EO Tryz.prog 108 1 8 (.pointer none):=eT
theorem zs9: Zv Tryz.prog 109=Zc (.pointer none):=by kernel_rfl
theorem zw6: EO Tryz.prog 109 1 8 (.pointer none):=eT
theorem zta: Zv Tryz.prog 110=Zc (Value.agg #[.pointer none,.pointer none]):=by kernel_rfl
theorem zw7: EO Tryz.prog 110 2 16 (Value.agg #[.pointer none,.pointer none]):=eT
theorem zhB: BD Tryz.prog 110 (Value.cells (Value.agg #[.pointer none,.pointer none])).toList [(0,1),(1,1)]:=bT3
theorem yW: Tryz.prog.eqGuardType Tryz.prog.depth 110=false:=by kernel_rfl
theorem ztb: Zv Tryz.prog 111=Zc (.pointer none):=by kernel_rfl
theorem zw8: EO Tryz.prog 111 1 8 (.pointer none):=eT
theorem ztc: Zv Tryz.prog 112=Zc (Value.agg #[.pointer none,.pointer none]):=by kernel_rfl
theorem zw9: EO Tryz.prog 112 2 16 (Value.agg #[.pointer none,.pointer none]):=eT
theorem zhC: BD Tryz.prog 112 (Value.cells (Value.agg #[.pointer none,.pointer none])).toList [(0,1),(1,1)]:=bT3
theorem yX: Tryz.prog.eqGuardType Tryz.prog.depth 112=false:=by kernel_rfl
theorem ztd: Zv Tryz.prog 114=Zc (Value.agg #[.pointer none,.pointer none,.pointer none,.pointer none,Value.slice none 0 0]):=by kernel_rfl
theorem zxa: EO Tryz.prog 114 5 56 (Value.agg #[.pointer none,.pointer none,.pointer none,.pointer none,Value.slice none 0 0]):=eT
theorem zhD: BD Tryz.prog 114 (Value.cells (Value.agg #[.pointer none,.pointer none,.pointer none,.pointer none,Value.slice none 0 0])).toList [(0,2),(2,2),(4,1)]:=bT3
@[go_sem] theorem zAD: Tryz.prog.stoodInHeld 114=false:=by kernel_rfl
theorem yY: Tryz.prog.eqGuardType Tryz.prog.depth 114=false:=by kernel_rfl
@[go_sem] theorem zAJ: Tryz.prog.stoodInHeld 121=false:=by kernel_rfl
@[go_sem] theorem zxb: Tryz.prog.cellsOf 131=1:=by kernel_rfl
theorem zte: Zv Tryz.prog 131=Zc (Value.slice none 0 0):=by kernel_rfl
theorem zxc: EO Tryz.prog 131 1 24 (Value.slice none 0 0):=eT
@[go_sem] theorem zxd: Tryz.prog.cellsOf 133=4:=by kernel_rfl
theorem ztf: Zv Tryz.prog 133=Zc (Value.agg #[Value.slice none 0 0,Value.slice none 0 0,Value.slice none 0 0,.int .i64 0]):=by kernel_rfl
theorem zxe: EO Tryz.prog 133 4 80 (Value.agg #[Value.slice none 0 0,Value.slice none 0 0,Value.slice none 0 0,.int .i64 0]):=eT
theorem ztg: BD Tryz.prog 133 (Value.cells (Value.agg #[Value.slice none 0 0,Value.slice none 0 0,Value.slice none 0 0,.int .i64 0])).toList [(0,1),(1,1),(2,1),(3,1)]:=bT3
@[go_sem] theorem zAS: Tryz.prog.stoodInHeld 133=false:=by kernel_rfl
theorem zth: Zv Tryz.prog 134=Zc (.pointer none):=by kernel_rfl
theorem zxf: EO Tryz.prog 134 1 8 (.pointer none):=eT
theorem zti: Zv Tryz.prog 135=Zc (.pointer none):=by kernel_rfl
theorem zxg: EO Tryz.prog 135 1 8 (.pointer none):=eT
theorem ztj: Zv Tryz.prog 136=Zc (Value.agg #[.pointer none,.pointer none]):=by kernel_rfl
theorem zxh: EO Tryz.prog 136 2 16 (Value.agg #[.pointer none,.pointer none]):=eT
theorem ztk: BD Tryz.prog 136 (Value.cells (Value.agg #[.pointer none,.pointer none])).toList [(0,1),(1,1)]:=bT3
theorem ztl: Zv Tryz.prog 138=Zc (Value.agg #[.pointer none,.pointer none,Value.slice none 0 0]):=by kernel_rfl
theorem zxi: EO Tryz.prog 138 3 40 (Value.agg #[.pointer none,.pointer none,Value.slice none 0 0]):=eT
theorem ztm: BD Tryz.prog 138 (Value.cells (Value.agg #[.pointer none,.pointer none,Value.slice none 0 0])).toList [(0,2),(2,1)]:=bT3
@[go_sem] theorem zAY: Tryz.prog.stoodInHeld 138=false:=by kernel_rfl
@[go_sem] theorem zxj: Tryz.prog.cellsOf 143=4:=by kernel_rfl
theorem ztn: Zv Tryz.prog 143=Zc (Value.agg #[.int .i64 0,.bool false,.bool false,.bool false]):=by kernel_rfl
theorem zxk: EO Tryz.prog 143 4 16 (Value.agg #[.int .i64 0,.bool false,.bool false,.bool false]):=eT
theorem zto: BD Tryz.prog 143 (Value.cells (Value.agg #[.int .i64 0,.bool false,.bool false,.bool false])).toList [(0,1),(1,1),(2,1),(3,1)]:=bT3
@[go_sem] theorem zA2: Tryz.prog.stoodInHeld 143=false:=by kernel_rfl
theorem zpv: Zv Tryz.prog 144=Zc (Value.agg #[.int .i64 0,.bool false,.bool false,.bool false]):=by kernel_rfl
theorem zxl: EO Tryz.prog 144 4 16 (Value.agg #[.int .i64 0,.bool false,.bool false,.bool false]):=eT
theorem zpw: BD Tryz.prog 144 (Value.cells (Value.agg #[.int .i64 0,.bool false,.bool false,.bool false])).toList [(0,1),(1,1),(2,1),(3,1)]:=bT3
@[go_sem] theorem zA4: Tryz.prog.stoodInHeld 144=false:=by kernel_rfl
@[go_sem] theorem zBb: Tryz.prog.stoodInHeld 150=false:=by kernel_rfl
theorem zxm: EO Tryz.prog 163 1 8 (.int .u64 0):=eT
theorem ztp: Zv Tryz.prog 167=Zc (.pointer none):=by kernel_rfl
theorem ztq: Zv Tryz.prog 168=Zc (.pointer none):=by kernel_rfl
theorem zxn: EO Tryz.prog 168 1 8 (.pointer none):=eT
theorem ztr: Zv Tryz.prog 171=Zc (Value.agg #[.pointer none,.bool false]):=by kernel_rfl
theorem zts: BD Tryz.prog 171 (Value.cells (Value.agg #[.pointer none,.bool false])).toList [(0,1),(1,1)]:=bT3
@[go_sem] theorem zBu: Tryz.prog.stoodInHeld 171=false:=by kernel_rfl
theorem ztt: Zv Tryz.prog 173=Zc (.pointer none):=by kernel_rfl
theorem ztu: Zv Tryz.prog 180=Zc (Value.agg #[.int .i64 0,.bool false,.int .i64 0,.int .i64 0,.int .i64 0,.int .i64 0,Value.slice none 0 0,Value.slice none 0 0,.int .i64 0,.int .i64 0,.bool false,.int .i64 0,.int .i64 0,.int .i64 0,.int .i64 0,Value.slice none 0 0]):=by kernel_rfl
theorem zxo: EO Tryz.prog 180 16 176 (Value.agg #[.int .i64 0,.bool false,.int .i64 0,.int .i64 0,.int .i64 0,.int .i64 0,Value.slice none 0 0,Value.slice none 0 0,.int .i64 0,.int .i64 0,.bool false,.int .i64 0,.int .i64 0,.int .i64 0,.int .i64 0,Value.slice none 0 0]):=eT
theorem zhE: BD Tryz.prog 180 (Value.cells (Value.agg #[.int .i64 0,.bool false,.int .i64 0,.int .i64 0,.int .i64 0,.int .i64 0,Value.slice none 0 0,Value.slice none 0 0,.int .i64 0,.int .i64 0,.bool false,.int .i64 0,.int .i64 0,.int .i64 0,.int .i64 0,Value.slice none 0 0])).toList [(0,1),(1,1),(2,13),(15,1)]:=bT3
@[go_sem] theorem zBC: Tryz.prog.stoodInHeld 180=false:=by kernel_rfl
theorem yZ: Tryz.prog.eqGuardType Tryz.prog.depth 180=false:=by kernel_rfl
theorem zpx: Zv Tryz.prog 181=Zc (.pointer none):=by kernel_rfl
theorem zxp: EO Tryz.prog 181 1 8 (.pointer none):=eT
theorem ztv: Zv Tryz.prog 185=Zc (Value.agg #[.pointer none]):=by kernel_rfl
theorem zxq: EO Tryz.prog 185 1 8 (Value.agg #[.pointer none]):=eT
theorem zhF: BD Tryz.prog 185 (Value.cells (Value.agg #[.pointer none])).toList [(0,1)]:=bT3
@[go_sem] theorem zBH: Tryz.prog.stoodInHeld 185=false:=by kernel_rfl
theorem y6: Tryz.prog.eqGuardType Tryz.prog.depth 185=false:=by kernel_rfl
@[go_sem] theorem zBR: Tryz.prog.stoodInHeld 196=false:=by kernel_rfl
theorem ztw: Zv Tryz.prog 204=Zc (Value.agg #[.pointer none]):=by kernel_rfl
theorem zxr: EO Tryz.prog 204 1 8 (Value.agg #[.pointer none]):=eT
theorem ztx: BD Tryz.prog 204 (Value.cells (Value.agg #[.pointer none])).toList [(0,1)]:=bT3
@[go_sem] theorem zBY: Tryz.prog.stoodInHeld 204=false:=by kernel_rfl
theorem zty: Zv Tryz.prog 208=Zc (Value.agg #[.int .i64 0,.int .i64 0,.int .i64 0,.int .i64 0,.int .i64 0,.int .i64 0,.int .i64 0,.int .i64 0,.int .i64 0,.int .i64 0]):=by kernel_rfl
theorem ztz: BD Tryz.prog 208 (Value.cells (Value.agg #[.int .i64 0,.int .i64 0,.int .i64 0,.int .i64 0,.int .i64 0,.int .i64 0,.int .i64 0,.int .i64 0,.int .i64 0,.int .i64 0])).toList [(0,1),(1,1),(2,1),(3,1),(4,1),(5,1),(6,1),(7,1),(8,1),(9,1)]:=bT3
theorem ztA: Tryz.prog.eqGuardType Tryz.prog.depth 208=false:=by kernel_rfl
theorem ztB: Zv Tryz.prog 217=Zc (Value.agg #[Value.slice none 0 0,.bool false]):=by kernel_rfl
theorem zxs: EO Tryz.prog 217 2 32 (Value.agg #[Value.slice none 0 0,.bool false]):=eT
theorem ztC: BD Tryz.prog 217 (Value.cells (Value.agg #[Value.slice none 0 0,.bool false])).toList [(0,1),(1,1)]:=bT3
@[go_sem] theorem zCc: Tryz.prog.stoodInHeld 217=false:=by kernel_rfl
theorem ztD: Zv Tryz.prog 235=Zc (Value.agg #[Value.slice none 0 0,.int .i64 0]):=by kernel_rfl
theorem zxt: EO Tryz.prog 235 2 32 (Value.agg #[Value.slice none 0 0,.int .i64 0]):=eT
theorem ztE: BD Tryz.prog 235 (Value.cells (Value.agg #[Value.slice none 0 0,.int .i64 0])).toList [(0,1),(1,1)]:=bT3
@[go_sem] theorem zCs: Tryz.prog.stoodInHeld 235=false:=by kernel_rfl
theorem zpy: Zv Tryz.prog 240=Zc (Value.agg #[Value.slice none 0 0,.int .i64 0,.int .i64 0]):=by kernel_rfl
theorem zxu: EO Tryz.prog 240 3 40 (Value.agg #[Value.slice none 0 0,.int .i64 0,.int .i64 0]):=eT
theorem zfb: BD Tryz.prog 240 (Value.cells (Value.agg #[Value.slice none 0 0,.int .i64 0,.int .i64 0])).toList [(0,1),(1,1),(2,1)]:=bT3
@[go_sem] theorem zCx: Tryz.prog.stoodInHeld 240=false:=by kernel_rfl
theorem zhG: Zv Tryz.prog 244=Zc (Value.agg #[Value.slice none 0 0,Value.slice none 0 0]):=by kernel_rfl
theorem zxv: EO Tryz.prog 244 2 48 (Value.agg #[Value.slice none 0 0,Value.slice none 0 0]):=eT
theorem zl7: BD Tryz.prog 244 (Value.cells (Value.agg #[Value.slice none 0 0,Value.slice none 0 0])).toList [(0,1),(1,1)]:=bT3
@[go_sem] theorem zCC: Tryz.prog.stoodInHeld 244=false:=by kernel_rfl
theorem zpz: Zv Tryz.prog 264=Zc (Value.agg #[.string ⟨#[]⟩,.bool false]):=by kernel_rfl
theorem zxw: EO Tryz.prog 264 2 24 (Value.agg #[.string ⟨#[]⟩,.bool false]):=eT
theorem zpA: BD Tryz.prog 264 (Value.cells (Value.agg #[.string ⟨#[]⟩,.bool false])).toList [(0,1),(1,1)]:=bT3
@[go_sem] theorem zCT: Tryz.prog.stoodInHeld 264=false:=by kernel_rfl
theorem ztF: Tryz.prog.eqGuardType Tryz.prog.depth 264=false:=by kernel_rfl
theorem zpB: Zv Tryz.prog 266=Zc (Value.agg #[.int .i64 0,.int .i64 0,.string ⟨#[]⟩,.bool false,.string ⟨#[]⟩,.bool false,.int .i64 0]):=by kernel_rfl
theorem zxx: EO Tryz.prog 266 7 72 (Value.agg #[.int .i64 0,.int .i64 0,.string ⟨#[]⟩,.bool false,.string ⟨#[]⟩,.bool false,.int .i64 0]):=eT
theorem zpC: BD Tryz.prog 266 (Value.cells (Value.agg #[.int .i64 0,.int .i64 0,.string ⟨#[]⟩,.bool false,.string ⟨#[]⟩,.bool false,.int .i64 0])).toList [(0,1),(1,1),(2,2),(4,2),(6,1)]:=bT3
@[go_sem] theorem zCW: Tryz.prog.stoodInHeld 266=false:=by kernel_rfl
theorem ztG: Tryz.prog.eqGuardType Tryz.prog.depth 266=false:=by kernel_rfl
theorem zxy: EO Tryz.prog 269 1 8 (.pointer none):=eT
theorem ztH: Zv Tryz.prog 275=Zc (.pointer none):=by kernel_rfl
theorem zxz: EO Tryz.prog 275 1 8 (.pointer none):=eT
theorem ztI: Zv Tryz.prog 278=Zc (Value.agg #[Value.slice none 0 0,Value.slice none 0 0,.pointer none]):=by kernel_rfl
theorem zxA: EO Tryz.prog 278 3 56 (Value.agg #[Value.slice none 0 0,Value.slice none 0 0,.pointer none]):=eT
theorem ztJ: BD Tryz.prog 278 (Value.cells (Value.agg #[Value.slice none 0 0,Value.slice none 0 0,.pointer none])).toList [(0,2),(2,1)]:=bT3
@[go_sem] theorem zC9: Tryz.prog.stoodInHeld 278=false:=by kernel_rfl
@[go_sem] theorem ztK: Tryz.prog.cellsOf 287=2:=by kernel_rfl
theorem ztL: Zv Tryz.prog 287=Zc (Value.agg #[.int .i64 0,.int .i64 0]):=by kernel_rfl
theorem zxB: EO Tryz.prog 287 2 16 (Value.agg #[.int .i64 0,.int .i64 0]):=eT
theorem ztM: BD Tryz.prog 287 (Value.cells (Value.agg #[.int .i64 0,.int .i64 0])).toList [(0,1),(1,1)]:=bT3
@[go_sem] theorem zDh: Tryz.prog.stoodInHeld 287=false:=by kernel_rfl
@[go_sem] theorem zxC: Tryz.prog.cellsOf 288=12:=by kernel_rfl
theorem ztN: Zv Tryz.prog 288=Zc (Value.agg #[.int .i64 0,.int .i64 0,.int .i64 0,.int .i64 0,.int .i64 0,.int .i64 0,.int .i64 0,.int .i64 0,.int .i64 0,.int .i64 0,.int .i64 0,.int .i64 0]):=by kernel_rfl
theorem zxD: EO Tryz.prog 288 12 96 (Value.agg #[.int .i64 0,.int .i64 0,.int .i64 0,.int .i64 0,.int .i64 0,.int .i64 0,.int .i64 0,.int .i64 0,.int .i64 0,.int .i64 0,.int .i64 0,.int .i64 0]):=eT
theorem ztO: BD Tryz.prog 288 (Value.cells (Value.agg #[.int .i64 0,.int .i64 0,.int .i64 0,.int .i64 0,.int .i64 0,.int .i64 0,.int .i64 0,.int .i64 0,.int .i64 0,.int .i64 0,.int .i64 0,.int .i64 0])).toList [(0,2),(2,2),(4,2),(6,2),(8,2),(10,2)]:=bT3
theorem ztP: Zv Tryz.prog 298=Zc (.pointer none):=by kernel_rfl
theorem zxE: EO Tryz.prog 298 1 8 (.pointer none):=eT
theorem ztQ: Zv Tryz.prog 299=Zc (Value.slice none 0 0):=by kernel_rfl
theorem zxF: EO Tryz.prog 299 1 24 (Value.slice none 0 0):=eT
theorem ztR: Zv Tryz.prog 312=Zc (.pointer none):=by kernel_rfl
theorem zxG: EO Tryz.prog 312 1 8 (.pointer none):=eT
theorem ztS: Zv Tryz.prog 315=Zc (Value.agg #[Value.slice none 0 0,.int .i64 0]):=by kernel_rfl
theorem zxH: EO Tryz.prog 315 2 32 (Value.agg #[Value.slice none 0 0,.int .i64 0]):=eT
@[go_sem] theorem zDG: Tryz.prog.stoodInHeld 315=false:=by kernel_rfl
theorem zxI: EO Tryz.prog 317 1 8 (.pointer none):=eT
theorem zl8: Zv Tryz.prog 320=Zc (Value.agg #[.string ⟨#[]⟩,.string ⟨#[]⟩]):=by kernel_rfl
theorem zl9: BD Tryz.prog 320 (Value.cells (Value.agg #[.string ⟨#[]⟩,.string ⟨#[]⟩])).toList [(0,1),(1,1)]:=bT3
theorem zma: Zv Tryz.prog 321=Zc V321x:=by kernel_rfl
theorem zmb: BD Tryz.prog 321 (Value.cells V321x).toList [(0,2),(2,2),(4,2),(6,2),(8,2),(10,2),(12,2),(14,2),(16,2),(18,2),(20,2),(22,2),(24,2),(26,2)]:=bT3
theorem zmc: Zv Tryz.prog 323=Zc V323x:=by kernel_rfl
theorem zmd: BD Tryz.prog 323 (Value.cells V323x).toList [(0,1),(1,1),(2,1),(3,1),(4,1),(5,1),(6,1),(7,1),(8,1),(9,1),(10,1),(11,1),(12,1),(13,1),(14,1),(15,1),(16,1),(17,1),(18,1),(19,1),(20,1),(21,1),(22,1),(23,1),(24,1),(25,1),(26,1),(27,1),(28,1),(29,1),(30,1),(31,1),(32,1),(33,1),(34,1),(35,1),(36,1),(37,1),(38,1),(39,1),(40,1),(41,1),(42,1),(43,1),(44,1),(45,1),(46,1)]:=bT3
set_option maxRecDepth 20000 in
theorem ztT: Zv Tryz.prog 325=Zc V325x:=by kernel_rfl
set_option maxRecDepth 20000 in
theorem zxJ: EO Tryz.prog 325 257 2056 V325x:=eT
set_option maxRecDepth 20000 in
theorem ztU: BD Tryz.prog 325 (Value.cells V325x).toList [(0,1),(1,1),(2,1),(3,1),(4,1),(5,1),(6,1),(7,1),(8,1),(9,1),(10,1),(11,1),(12,1),(13,1),(14,1),(15,1),(16,1),(17,1),(18,1),(19,1),(20,1),(21,1),(22,1),(23,1),(24,1),(25,1),(26,1),(27,1),(28,1),(29,1),(30,1),(31,1),(32,1),(33,1),(34,1),(35,1),(36,1),(37,1),(38,1),(39,1),(40,1),(41,1),(42,1),(43,1),(44,1),(45,1),(46,1),(47,1),(48,1),(49,1),(50,1),(51,1),(52,1),(53,1),(54,1),(55,1),(56,1),(57,1),(58,1),(59,1),(60,1),(61,1),(62,1),(63,1),(64,1),(65,1),(66,1),(67,1),(68,1),(69,1),(70,1),(71,1),(72,1),(73,1),(74,1),(75,1),(76,1),(77,1),(78,1),(79,1),(80,1),(81,1),(82,1),(83,1),(84,1),(85,1),(86,1),(87,1),(88,1),(89,1),(90,1),(91,1),(92,1),(93,1),(94,1),(95,1),(96,1),(97,1),(98,1),(99,1),(100,1),(101,1),(102,1),(103,1),(104,1),(105,1),(106,1),(107,1),(108,1),(109,1),(110,1),(111,1),(112,1),(113,1),(114,1),(115,1),(116,1),(117,1),(118,1),(119,1),(120,1),(121,1),(122,1),(123,1),(124,1),(125,1),(126,1),(127,1),(128,1),(129,1),(130,1),(131,1),(132,1),(133,1),(134,1),(135,1),(136,1),(137,1),(138,1),(139,1),(140,1),(141,1),(142,1),(143,1),(144,1),(145,1),(146,1),(147,1),(148,1),(149,1),(150,1),(151,1),(152,1),(153,1),(154,1),(155,1),(156,1),(157,1),(158,1),(159,1),(160,1),(161,1),(162,1),(163,1),(164,1),(165,1),(166,1),(167,1),(168,1),(169,1),(170,1),(171,1),(172,1),(173,1),(174,1),(175,1),(176,1),(177,1),(178,1),(179,1),(180,1),(181,1),(182,1),(183,1),(184,1),(185,1),(186,1),(187,1),(188,1),(189,1),(190,1),(191,1),(192,1),(193,1),(194,1),(195,1),(196,1),(197,1),(198,1),(199,1),(200,1),(201,1),(202,1),(203,1),(204,1),(205,1),(206,1),(207,1),(208,1),(209,1),(210,1),(211,1),(212,1),(213,1),(214,1),(215,1),(216,1),(217,1),(218,1),(219,1),(220,1),(221,1),(222,1),(223,1),(224,1),(225,1),(226,1),(227,1),(228,1),(229,1),(230,1),(231,1),(232,1),(233,1),(234,1),(235,1),(236,1),(237,1),(238,1),(239,1),(240,1),(241,1),(242,1),(243,1),(244,1),(245,1),(246,1),(247,1),(248,1),(249,1),(250,1),(251,1),(252,1),(253,1),(254,1),(255,1),(256,1)]:=bT3
theorem ztV: Zv Tryz.prog 326=Zc (Value.agg #[.int .i64 0,.int .i64 0,.int .i64 0,.int .i64 0,.int .i64 0,.int .i64 0,.int .i64 0,.int .i64 0,.int .i64 0,.int .i64 0,.int .i64 0,.int .i64 0,.int .i64 0,.int .i64 0,.int .i64 0,.int .i64 0,.int .i64 0,.int .i64 0,.int .i64 0,.int .i64 0,.int .i64 0,.int .i64 0,.int .i64 0,.int .i64 0,.int .i64 0,.int .i64 0,.int .i64 0,.int .i64 0,.int .i64 0,.int .i64 0,.int .i64 0]):=by kernel_rfl
theorem zxK: EO Tryz.prog 326 31 248 (Value.agg #[.int .i64 0,.int .i64 0,.int .i64 0,.int .i64 0,.int .i64 0,.int .i64 0,.int .i64 0,.int .i64 0,.int .i64 0,.int .i64 0,.int .i64 0,.int .i64 0,.int .i64 0,.int .i64 0,.int .i64 0,.int .i64 0,.int .i64 0,.int .i64 0,.int .i64 0,.int .i64 0,.int .i64 0,.int .i64 0,.int .i64 0,.int .i64 0,.int .i64 0,.int .i64 0,.int .i64 0,.int .i64 0,.int .i64 0,.int .i64 0,.int .i64 0]):=eT
theorem ztW: BD Tryz.prog 326 (Value.cells (Value.agg #[.int .i64 0,.int .i64 0,.int .i64 0,.int .i64 0,.int .i64 0,.int .i64 0,.int .i64 0,.int .i64 0,.int .i64 0,.int .i64 0,.int .i64 0,.int .i64 0,.int .i64 0,.int .i64 0,.int .i64 0,.int .i64 0,.int .i64 0,.int .i64 0,.int .i64 0,.int .i64 0,.int .i64 0,.int .i64 0,.int .i64 0,.int .i64 0,.int .i64 0,.int .i64 0,.int .i64 0,.int .i64 0,.int .i64 0,.int .i64 0,.int .i64 0])).toList [(0,1),(1,1),(2,1),(3,1),(4,1),(5,1),(6,1),(7,1),(8,1),(9,1),(10,1),(11,1),(12,1),(13,1),(14,1),(15,1),(16,1),(17,1),(18,1),(19,1),(20,1),(21,1),(22,1),(23,1),(24,1),(25,1),(26,1),(27,1),(28,1),(29,1),(30,1)]:=bT3
set_option maxRecDepth 20000 in
set_option maxRecDepth 20000 in
set_option maxRecDepth 20000 in
set_option maxRecDepth 20000 in
theorem ztX: Zv Tryz.prog 328=Zc V328x:=by kernel_rfl
set_option maxRecDepth 20000 in
theorem zxL: EO Tryz.prog 328 352 2832 V328x:=eT
set_option maxRecDepth 20000 in
theorem ztY: BD Tryz.prog 328 (Value.cells V328x).toList [(0,1),(1,257),(258,1),(259,31),(290,31),(321,31)]:=bT3
@[go_sem] theorem zDU: Tryz.prog.stoodInHeld 328=false:=by kernel_rfl
theorem zxM: EO Tryz.prog 329 1 8 (.pointer none):=eT
theorem zxN: EO Tryz.prog 331 2 32 (Value.agg #[Value.slice none 0 0,.int .i64 0]):=eT
theorem ztZ: BD Tryz.prog 331 (Value.cells (Value.agg #[Value.slice none 0 0,.int .i64 0])).toList [(0,1),(1,1)]:=bT3
@[go_sem] theorem zDY: Tryz.prog.stoodInHeld 331=false:=by kernel_rfl
@[go_sem] theorem zzA: zeK 0=.ip false [.lit (.int .i64 0),.lit (.int .i64 0),.lit (.int .i64 128),.lit (.int .i64 7),.lit (.int .i64 64),.lit (.int .i64 6),.lit (.int .i64 0),.lit (.int .i64 4),.lit (.int .i64 16),.lit (.int .i64 4),.lit (.int .i64 32),.lit (.int .i64 5)]:=rfl
end Go.Proofs.YtdalcgfnlbofdaaGreatDoor
