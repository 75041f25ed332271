/- SolveNames: calls, as the abstract machine reckons them, part 9. -/
import Derived.Test.YtnpknclpnogagaaGreatDoorWV
namespace Go.Proofs.YtnpknclpnogagaaGreatDoor
open Go.Ax
theorem runW222 : pureOk 1000 (eW222).2.2 (call Tryz.prog (cx []) 20000 (eW222).1 (eW222).2.1 h0) = true := by kernel_rfl
theorem runW223 : pureOk 1000 (eW223).2.2 (call Tryz.prog (cx []) 20000 (eW223).1 (eW223).2.1 h0) = true := by kernel_rfl
theorem runW224 : pureOk 1000 (eW224).2.2 (call Tryz.prog (cx []) 20000 (eW224).1 (eW224).2.1 h0) = true := by kernel_rfl
theorem runW225 : pureOk 1000 (eW225).2.2 (call Tryz.prog (cx []) 20000 (eW225).1 (eW225).2.1 h0) = true := by kernel_rfl
theorem runW226 : pureOk 1000 (eW226).2.2 (call Tryz.prog (cx []) 20000 (eW226).1 (eW226).2.1 h0) = true := by kernel_rfl
theorem runW227 : pureOk 1000 (eW227).2.2 (call Tryz.prog (cx []) 20000 (eW227).1 (eW227).2.1 h0) = true := by kernel_rfl
theorem runW228 : pureOk 1000 (eW228).2.2 (call Tryz.prog (cx [eW84]) 20000 (eW228).1 (eW228).2.1 h0) = true := by kernel_rfl
theorem runW229 : pureOk 1000 (eW229).2.2 (call Tryz.prog (cx [eW84]) 20000 (eW229).1 (eW229).2.1 h0) = true := by kernel_rfl
theorem runW230 : pureOk 1000 (eW230).2.2 (call Tryz.prog (cx []) 20000 (eW230).1 (eW230).2.1 h0) = true := by kernel_rfl
theorem runW231 : pureOk 1000 (eW231).2.2 (call Tryz.prog (cx [eW84]) 20000 (eW231).1 (eW231).2.1 h0) = true := by kernel_rfl
theorem runW232 : pureOk 1000 (eW232).2.2 (call Tryz.prog (cx []) 20000 (eW232).1 (eW232).2.1 h0) = true := by kernel_rfl
theorem runW233 : pureOk 1000 (eW233).2.2 (call Tryz.prog (cx [eW232]) 20000 (eW233).1 (eW233).2.1 h0) = true := by kernel_rfl
theorem runW234 : pureOk 1000 (eW234).2.2 (call Tryz.prog (cx [eW232]) 20000 (eW234).1 (eW234).2.1 h0) = true := by kernel_rfl
theorem runW235 : pureOk 1000 (eW235).2.2 (call Tryz.prog (cx [eW232]) 20000 (eW235).1 (eW235).2.1 h0) = true := by kernel_rfl
theorem runW236 : pureOk 1000 (eW236).2.2 (call Tryz.prog (cx [eW232]) 20000 (eW236).1 (eW236).2.1 h0) = true := by kernel_rfl
theorem runW237 : pureOk 1000 (eW237).2.2 (call Tryz.prog (cx [eW232]) 20000 (eW237).1 (eW237).2.1 h0) = true := by kernel_rfl
theorem runW238 : pureOk 1000 (eW238).2.2 (call Tryz.prog (cx [eW232]) 20000 (eW238).1 (eW238).2.1 h0) = true := by kernel_rfl
theorem runW239 : pureOk 1000 (eW239).2.2 (call Tryz.prog (cx [eW232]) 20000 (eW239).1 (eW239).2.1 h0) = true := by kernel_rfl
theorem runW240 : pureOk 1000 (eW240).2.2 (call Tryz.prog (cx []) 20000 (eW240).1 (eW240).2.1 h0) = true := by kernel_rfl
theorem runW241 : pureOk 1000 (eW241).2.2 (call Tryz.prog (cx [eW232]) 20000 (eW241).1 (eW241).2.1 h0) = true := by kernel_rfl
theorem runW242 : pureOk 1000 (eW242).2.2 (call Tryz.prog (cx []) 20000 (eW242).1 (eW242).2.1 h0) = true := by kernel_rfl
theorem runW243 : pureOk 1000 (eW243).2.2 (call Tryz.prog (cx [eW242]) 20000 (eW243).1 (eW243).2.1 h0) = true := by kernel_rfl
theorem runW244 : pureOk 1000 (eW244).2.2 (call Tryz.prog (cx [eW242]) 20000 (eW244).1 (eW244).2.1 h0) = true := by kernel_rfl
theorem runW245 : pureOk 1000 (eW245).2.2 (call Tryz.prog (cx [eW242]) 20000 (eW245).1 (eW245).2.1 h0) = true := by kernel_rfl
theorem runW246 : pureOk 1000 (eW246).2.2 (call Tryz.prog (cx [eW242]) 20000 (eW246).1 (eW246).2.1 h0) = true := by kernel_rfl
theorem runW247 : pureOk 1000 (eW247).2.2 (call Tryz.prog (cx [eW242]) 20000 (eW247).1 (eW247).2.1 h0) = true := by kernel_rfl
theorem runW248 : pureOk 1000 (eW248).2.2 (call Tryz.prog (cx [eW242]) 20000 (eW248).1 (eW248).2.1 h0) = true := by kernel_rfl
theorem runW249 : pureOk 1000 (eW249).2.2 (call Tryz.prog (cx [eW242]) 20000 (eW249).1 (eW249).2.1 h0) = true := by kernel_rfl
theorem runW250 : pureOk 1000 (eW250).2.2 (call Tryz.prog (cx []) 20000 (eW250).1 (eW250).2.1 h0) = true := by kernel_rfl
theorem runW251 : pureOk 1000 (eW251).2.2 (call Tryz.prog (cx [eW250]) 20000 (eW251).1 (eW251).2.1 h0) = true := by kernel_rfl
theorem runW252 : pureOk 1000 (eW252).2.2 (call Tryz.prog (cx [eW250]) 20000 (eW252).1 (eW252).2.1 h0) = true := by kernel_rfl
theorem runW253 : pureOk 1000 (eW253).2.2 (call Tryz.prog (cx [eW250]) 20000 (eW253).1 (eW253).2.1 h0) = true := by kernel_rfl
theorem runW254 : pureOk 1000 (eW254).2.2 (call Tryz.prog (cx [eW250]) 20000 (eW254).1 (eW254).2.1 h0) = true := by kernel_rfl
theorem runW255 : pureOk 1000 (eW255).2.2 (call Tryz.prog (cx [eW250]) 20000 (eW255).1 (eW255).2.1 h0) = true := by kernel_rfl
theorem runW256 : pureOk 1000 (eW256).2.2 (call Tryz.prog (cx [eW250]) 20000 (eW256).1 (eW256).2.1 h0) = true := by kernel_rfl
theorem runW257 : pureOk 1000 (eW257).2.2 (call Tryz.prog (cx [eW250]) 20000 (eW257).1 (eW257).2.1 h0) = true := by kernel_rfl
theorem runW258 : pureOk 1000 (eW258).2.2 (call Tryz.prog (cx [eW250]) 20000 (eW258).1 (eW258).2.1 h0) = true := by kernel_rfl
theorem runW259 : pureOk 1000 (eW259).2.2 (call Tryz.prog (cx [eW250]) 20000 (eW259).1 (eW259).2.1 h0) = true := by kernel_rfl
theorem runW260 : pureOk 1000 (eW260).2.2 (call Tryz.prog (cx [eW250]) 20000 (eW260).1 (eW260).2.1 h0) = true := by kernel_rfl
theorem runW261 : pureOk 1000 (eW261).2.2 (call Tryz.prog (cx [eW250]) 20000 (eW261).1 (eW261).2.1 h0) = true := by kernel_rfl
theorem runW262 : pureOk 1000 (eW262).2.2 (call Tryz.prog (cx [eW250]) 20000 (eW262).1 (eW262).2.1 h0) = true := by kernel_rfl
theorem runW263 : pureOk 1000 (eW263).2.2 (call Tryz.prog (cx [eW250]) 20000 (eW263).1 (eW263).2.1 h0) = true := by kernel_rfl
theorem runW264 : pureOk 1000 (eW264).2.2 (call Tryz.prog (cx [eW250]) 20000 (eW264).1 (eW264).2.1 h0) = true := by kernel_rfl
theorem runW265 : pureOkN 1000 (eW265).2.2 (callAll Tryz.prog (cx [eW51, eW69, eW77, eW80, eW82, eW83, eW85, eW86, eW87, eW88, eW89, eW90, eW91, eW92, eW93, eW94, eW95, eW96, eW97, eW98, eW99, eW100, eW101, eW251, eW252, eW253, eW254, eW255, eW256, eW257, eW258, eW259, eW260, eW261, eW262, eW263, eW264]) (nkW [pW0, pW1, pW33, pW65]) 20000 (eW265).1 (eW265).2.1) = true := by kernel_rfl
theorem runW266 : pureOk 1000 (eW266).2.2 (call Tryz.prog (cx []) 20000 (eW266).1 (eW266).2.1 h0) = true := by kernel_rfl
theorem runW267 : pureOk 1000 (eW267).2.2 (call Tryz.prog (cx [eW266]) 20000 (eW267).1 (eW267).2.1 h0) = true := by kernel_rfl
theorem runW268 : pureOk 1000 (eW268).2.2 (call Tryz.prog (cx [eW81, eW265, eW267]) 20000 (eW268).1 (eW268).2.1 h0) = true := by kernel_rfl
theorem runW269 : pureOk 1000 (eW269).2.2 (call Tryz.prog (cx [eW51, eW69, eW77, eW80]) 20000 (eW269).1 (eW269).2.1 h0) = true := by kernel_rfl
theorem runW270 : pureOk 1000 (eW270).2.2 (call Tryz.prog (cx [eW269]) 20000 (eW270).1 (eW270).2.1 h0) = true := by kernel_rfl
theorem runW271 : pureOk 1000 (eW271).2.2 (call Tryz.prog (cx []) 20000 (eW271).1 (eW271).2.1 h0) = true := by kernel_rfl
theorem runW272 : pureOk 1000 (eW272).2.2 (call Tryz.prog (cx [eW271]) 20000 (eW272).1 (eW272).2.1 h0) = true := by kernel_rfl
theorem runW273 : pureOk 1000 (eW273).2.2 (call Tryz.prog (cx [eW272]) 20000 (eW273).1 (eW273).2.1 h0) = true := by kernel_rfl
theorem runW274 : pureOk 1000 (eW274).2.2 (call Tryz.prog (cx [eW273]) 20000 (eW274).1 (eW274).2.1 h0) = true := by kernel_rfl
theorem runW275 : pureOkN 1000 (eW275).2.2 (callAll Tryz.prog (cx [eW274]) (nkW []) 20000 (eW275).1 (eW275).2.1) = true := by kernel_rfl
theorem runW276 : pureOk 1000 (eW276).2.2 (call Tryz.prog (cx [eW51, eW69, eW77, eW80]) 20000 (eW276).1 (eW276).2.1 h0) = true := by kernel_rfl
theorem runW277 : pureOk 1000 (eW277).2.2 (call Tryz.prog (cx [eW86]) 20000 (eW277).1 (eW277).2.1 h0) = true := by kernel_rfl
theorem runW278 : pureOk 1000 (eW278).2.2 (call Tryz.prog (cx [eW265, eW276, eW277]) 20000 (eW278).1 (eW278).2.1 h0) = true := by kernel_rfl
theorem runW279 : pureOk 1000 (eW279).2.2 (call Tryz.prog (cx []) 20000 (eW279).1 (eW279).2.1 h0) = true := by kernel_rfl
theorem runW280 : pureOk 1000 (eW280).2.2 (call Tryz.prog (cx []) 20000 (eW280).1 (eW280).2.1 h0) = true := by kernel_rfl
end Go.Proofs.YtnpknclpnogagaaGreatDoor
