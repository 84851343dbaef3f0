/- Each function of the program is as its plain function says, for FnExactCrashLeader. No condition. -/
import Derived.Test.YtjamkpjjlpmofaaGreatRvP6
import Derived.Test.YtjamkpjjlpmofaaGreatProg
import Derived.KernelRfl
import Derived.RangeFuncBox
import Derived.RangeFuncLeaves
import Derived.Shelf.Abstract
import Derived.WalkKit
import Derived.OwnWalkIn
import Derived.TacticsInMore
import Derived.LoopNIn
import Derived.LoopIn
namespace Go.RvP
open Go Go.Rv Go.Proofs Go.Shelf Go.RowKit Go.Lib Go.Sort
set_option maxRecDepth 100000
theorem hm : Tryz.prog.follows .mixedOrders = true := by kernel_rfl
theorem hT : TabOK Tryz.prog T := tabOK_of (by kernel_rfl)
noncomputable def BB : Bodies := [(26,Tryz.f26),(27,Tryz.f27),(85,Tryz.f85),(87,Tryz.f87),(89,Tryz.f89),(90,Tryz.f90),(100,Tryz.f100),(101,Tryz.f101),(102,Tryz.f102),(173,Tryz.f173),(175,Tryz.f175),(179,Tryz.f179),(180,Tryz.f180),(195,Tryz.f195),(224,Tryz.f224),(225,Tryz.f225),(255,Tryz.f255),(276,Tryz.f276),(280,Tryz.f280),(288,Tryz.f288),(289,Tryz.f289),(290,Tryz.f290),(294,Tryz.f294),(337,Tryz.f337),(371,Tryz.f371),(372,Tryz.f372),(373,Tryz.f373),(378,Tryz.f378),(380,Tryz.f380),(381,Tryz.f381),(424,Tryz.f424),(428,Tryz.f428),(429,Tryz.f429),(431,Tryz.f431),(458,Tryz.f458),(470,Tryz.f470)]
theorem hBB : BodyOK Tryz.prog BB := (bodyOK_cons Tryz.func26 (by kernel_rfl) (bodyOK_cons Tryz.func27 (by kernel_rfl) (bodyOK_cons Tryz.func85 (by kernel_rfl) (bodyOK_cons Tryz.func87 (by kernel_rfl) (bodyOK_cons Tryz.func89 (by kernel_rfl) (bodyOK_cons Tryz.func90 (by kernel_rfl) (bodyOK_cons Tryz.func100 (by kernel_rfl) (bodyOK_cons Tryz.func101 (by kernel_rfl) (bodyOK_cons Tryz.func102 (by kernel_rfl) (bodyOK_cons Tryz.func173 (by kernel_rfl) (bodyOK_cons Tryz.func175 (by kernel_rfl) (bodyOK_cons Tryz.func179 (by kernel_rfl) (bodyOK_cons Tryz.func180 (by kernel_rfl) (bodyOK_cons Tryz.func195 (by kernel_rfl) (bodyOK_cons Tryz.func224 (by kernel_rfl) (bodyOK_cons Tryz.func225 (by kernel_rfl) (bodyOK_cons Tryz.func255 (by kernel_rfl) (bodyOK_cons Tryz.func276 (by kernel_rfl) (bodyOK_cons Tryz.func280 (by kernel_rfl) (bodyOK_cons Tryz.func288 (by kernel_rfl) (bodyOK_cons Tryz.func289 (by kernel_rfl) (bodyOK_cons Tryz.func290 (by kernel_rfl) (bodyOK_cons Tryz.func294 (by kernel_rfl) (bodyOK_cons Tryz.func337 (by kernel_rfl) (bodyOK_cons Tryz.func371 (by kernel_rfl) (bodyOK_cons Tryz.func372 (by kernel_rfl) (bodyOK_cons Tryz.func373 (by kernel_rfl) (bodyOK_cons Tryz.func378 (by kernel_rfl) (bodyOK_cons Tryz.func380 (by kernel_rfl) (bodyOK_cons Tryz.func381 (by kernel_rfl) (bodyOK_cons Tryz.func424 (by kernel_rfl) (bodyOK_cons Tryz.func428 (by kernel_rfl) (bodyOK_cons Tryz.func429 (by kernel_rfl) (bodyOK_cons Tryz.func431 (by kernel_rfl) (bodyOK_cons Tryz.func458 (by kernel_rfl) (bodyOK_cons Tryz.func470 (by kernel_rfl) bodyOK_nil))))))))))))))))))))))))))))))))))))
theorem okc {G : Env} (h : EnvOK Tryz.prog G) {f : Nat} {fn : Func} {F : FSpec} (hf : Tryz.prog.funcs[f]? = some fn) (hB : funB fn F = true) (an : Ann) (d : Nat) (p : Nat → Tup (F.ps.map PK.kd) → Option (Tup (F.rs ++ boxes F.ps))) (e : ∀ n x,afun G T BB d n fn an F.ps F.rs x = p n x) (r : ∀ x,F.run x = p FU x) : EnvOK Tryz.prog ((f,F) :: G) := envOK_cons hm hT h hf hB hBB fun x q hr => ⟨FU,(e FU x).trans ((r x).symm.trans hr)⟩
theorem ok_w0q : EnvOK Tryz.prog G_w0q := okc envOK_nil Tryz.func256 (by kernel_rfl) a_w0q 0 p_w0q (fun _ _ => by kernel_rfl) fun _ => rfl
theorem ok_w1q : EnvOK Tryz.prog G_w1q := okc ok_w0q Tryz.func151 (by kernel_rfl) a_w1q 0 p_w1q (fun _ _ => by kernel_rfl) fun _ => rfl
theorem ok_w2q : EnvOK Tryz.prog G_w2q := okc ok_w1q Tryz.func65 (by kernel_rfl) a_w2q 0 p_w2q (fun _ _ => by kernel_rfl) fun _ => rfl
theorem ok_w3q : EnvOK Tryz.prog G_w3q := okc ok_w2q Tryz.func257 (by kernel_rfl) a_w3q 0 p_w3q (fun _ _ => by kernel_rfl) fun _ => rfl
theorem ok_w4q : EnvOK Tryz.prog G_w4q := okc ok_w3q Tryz.func258 (by kernel_rfl) a_w4q 0 p_w4q (fun _ _ => by kernel_rfl) fun _ => rfl
theorem ok_w5q : EnvOK Tryz.prog G_w5q := okc ok_w4q Tryz.func259 (by kernel_rfl) a_w5q 0 p_w5q (fun _ _ => by kernel_rfl) fun _ => rfl
theorem ok_w6q : EnvOK Tryz.prog G_w6q := okc ok_w5q Tryz.func152 (by kernel_rfl) a_w6q 0 p_w6q (fun _ _ => by kernel_rfl) fun _ => rfl
theorem ok_w7q : EnvOK Tryz.prog G_w7q := okc ok_w6q Tryz.func66 (by kernel_rfl) a_w7q 0 p_w7q (fun _ _ => by kernel_rfl) fun _ => rfl
theorem ok_w8q : EnvOK Tryz.prog G_w8q := okc ok_w7q Tryz.func419 (by kernel_rfl) a_w8q 0 p_w8q (fun _ _ => by kernel_rfl) fun _ => rfl
theorem ok_w9q : EnvOK Tryz.prog G_w9q := okc ok_w8q Tryz.func350 (by kernel_rfl) a_w9q 0 p_w9q (fun _ _ => by kernel_rfl) fun _ => rfl
theorem ok_w10q : EnvOK Tryz.prog G_w10q := okc ok_w9q Tryz.func260 (by kernel_rfl) a_w10q 0 p_w10q (fun _ _ => by kernel_rfl) fun _ => rfl
theorem ok_w11q : EnvOK Tryz.prog G_w11q := okc ok_w10q Tryz.func153 (by kernel_rfl) a_w11q 0 p_w11q (fun _ _ => by kernel_rfl) fun _ => rfl
theorem ok_w12q : EnvOK Tryz.prog G_w12q := okc ok_w11q Tryz.func67 (by kernel_rfl) a_w12q 0 p_w12q (fun _ _ => by kernel_rfl) fun _ => rfl
theorem ok_w13q : EnvOK Tryz.prog G_w13q := okc ok_w12q Tryz.func351 (by kernel_rfl) a_w13q 0 p_w13q (fun _ _ => by kernel_rfl) fun _ => rfl
theorem ok_w14q : EnvOK Tryz.prog G_w14q := okc ok_w13q Tryz.func261 (by kernel_rfl) a_w14q 0 p_w14q (fun _ _ => by kernel_rfl) fun _ => rfl
theorem ok_w15q : EnvOK Tryz.prog G_w15q := okc ok_w14q Tryz.func262 (by kernel_rfl) a_w15q 0 p_w15q (fun _ _ => by kernel_rfl) fun _ => rfl
theorem ok_w16q : EnvOK Tryz.prog G_w16q := okc ok_w15q Tryz.func154 (by kernel_rfl) a_w16q 0 p_w16q (fun _ _ => by kernel_rfl) fun _ => rfl
theorem ok_w17q : EnvOK Tryz.prog G_w17q := okc ok_w16q Tryz.func68 (by kernel_rfl) a_w17q 0 p_w17q (fun _ _ => by kernel_rfl) fun _ => rfl
theorem ok_w18q : EnvOK Tryz.prog G_w18q := okc ok_w17q Tryz.func69 (by kernel_rfl) a_w18q 0 p_w18q (fun _ _ => by kernel_rfl) fun _ => rfl
theorem ok_w19q : EnvOK Tryz.prog G_w19q := okc ok_w18q Tryz.func18 (by kernel_rfl) a_w19q 0 p_w19q (fun _ _ => by kernel_rfl) fun _ => rfl
theorem ok_w20q : EnvOK Tryz.prog G_w20q := okc ok_w19q Tryz.func360 (by kernel_rfl) a_w20q 0 p_w20q (fun _ _ => by kernel_rfl) fun _ => rfl
theorem ok_w21q : EnvOK Tryz.prog G_w21q := okc ok_w20q Tryz.func268 (by kernel_rfl) a_w21q 0 p_w21q (fun _ _ => by kernel_rfl) fun _ => rfl
theorem ok_w22q : EnvOK Tryz.prog G_w22q := okc ok_w21q Tryz.func166 (by kernel_rfl) a_w22q 0 p_w22q (fun _ _ => by kernel_rfl) fun _ => rfl
theorem ok_w23q : EnvOK Tryz.prog G_w23q := okc ok_w22q Tryz.func75 (by kernel_rfl) a_w23q 0 p_w23q (fun _ _ => by kernel_rfl) fun _ => rfl
theorem ok_w24q : EnvOK Tryz.prog G_w24q := okc ok_w23q Tryz.func361 (by kernel_rfl) a_w24q 0 p_w24q (fun _ _ => by kernel_rfl) fun _ => rfl
theorem ok_w25q : EnvOK Tryz.prog G_w25q := okc ok_w24q Tryz.func269 (by kernel_rfl) a_w25q 0 p_w25q (fun _ _ => by kernel_rfl) fun _ => rfl
theorem ok_w26q : EnvOK Tryz.prog G_w26q := okc ok_w25q Tryz.func362 (by kernel_rfl) a_w26q 0 p_w26q (fun _ _ => by kernel_rfl) fun _ => rfl
theorem ok_w27q : EnvOK Tryz.prog G_w27q := okc ok_w26q Tryz.func270 (by kernel_rfl) a_w27q 0 p_w27q (fun _ _ => by kernel_rfl) fun _ => rfl
theorem ok_w28q : EnvOK Tryz.prog G_w28q := okc ok_w27q Tryz.func271 (by kernel_rfl) a_w28q 0 p_w28q (fun _ _ => by kernel_rfl) fun _ => rfl
theorem ok_w29q : EnvOK Tryz.prog G_w29q := okc ok_w28q Tryz.func167 (by kernel_rfl) a_w29q 0 p_w29q (fun _ _ => by kernel_rfl) fun _ => rfl
theorem ok_w30q : EnvOK Tryz.prog G_w30q := okc ok_w29q Tryz.func76 (by kernel_rfl) a_w30q 0 p_w30q (fun _ _ => by kernel_rfl) fun _ => rfl
theorem ok_w31q : EnvOK Tryz.prog G_w31q := okc ok_w30q Tryz.func275 (by kernel_rfl) a_w31q 0 p_w31q (fun _ _ => by kernel_rfl) fun _ => rfl
theorem ok_w32q : EnvOK Tryz.prog G_w32q := okc ok_w31q Tryz.func422 (by kernel_rfl) a_w32q 0 p_w32q (fun _ _ => by kernel_rfl) fun _ => rfl
theorem ok_w33q : EnvOK Tryz.prog G_w33q := okc ok_w32q Tryz.func363 (by kernel_rfl) a_w33q 0 p_w33q (fun _ _ => by kernel_rfl) fun _ => rfl
theorem ok_w34q : EnvOK Tryz.prog G_w34q := okc ok_w33q Tryz.func272 (by kernel_rfl) a_w34q 0 p_w34q (fun _ _ => by kernel_rfl) fun _ => rfl
theorem ok_w35q : EnvOK Tryz.prog G_w35q := okc ok_w34q Tryz.func168 (by kernel_rfl) a_w35q 0 p_w35q (fun _ _ => by kernel_rfl) fun _ => rfl
theorem ok_w36q : EnvOK Tryz.prog G_w36q := okc ok_w35q Tryz.func77 (by kernel_rfl) a_w36q 0 p_w36q (fun _ _ => by kernel_rfl) fun _ => rfl
theorem ok_w37q : EnvOK Tryz.prog G_w37q := okc ok_w36q Tryz.func364 (by kernel_rfl) a_w37q 0 p_w37q (fun _ _ => by kernel_rfl) fun _ => rfl
theorem ok_w38q : EnvOK Tryz.prog G_w38q := okc ok_w37q Tryz.func273 (by kernel_rfl) a_w38q 0 p_w38q (fun _ _ => by kernel_rfl) fun _ => rfl
theorem ok_w39q : EnvOK Tryz.prog G_w39q := okc ok_w38q Tryz.func365 (by kernel_rfl) a_w39q 0 p_w39q (fun _ _ => by kernel_rfl) fun _ => rfl
theorem ok_w40q : EnvOK Tryz.prog G_w40q := okc ok_w39q Tryz.func274 (by kernel_rfl) a_w40q 0 p_w40q (fun _ _ => by kernel_rfl) fun _ => rfl
theorem ok_w41q : EnvOK Tryz.prog G_w41q := okc ok_w40q Tryz.func169 (by kernel_rfl) a_w41q 0 p_w41q (fun _ _ => by kernel_rfl) fun _ => rfl
theorem ok_w42q : EnvOK Tryz.prog G_w42q := okc ok_w41q Tryz.func78 (by kernel_rfl) a_w42q 0 p_w42q (fun _ _ => by kernel_rfl) fun _ => rfl
theorem ok_w43q : EnvOK Tryz.prog G_w43q := okc ok_w42q Tryz.func170 (by kernel_rfl) a_w43q 0 p_w43q (fun _ _ => by kernel_rfl) fun _ => rfl
theorem ok_w44q : EnvOK Tryz.prog G_w44q := okc ok_w43q Tryz.func79 (by kernel_rfl) a_w44q 0 p_w44q (fun _ _ => by kernel_rfl) fun _ => rfl
theorem ok_w45q : EnvOK Tryz.prog G_w45q := okc ok_w44q Tryz.func20 (by kernel_rfl) a_w45q 0 p_w45q (fun _ _ => by kernel_rfl) fun _ => rfl
theorem ok_w46q : EnvOK Tryz.prog G_w46q := okc ok_w45q Tryz.func98 (by kernel_rfl) a_w46q 0 p_w46q (fun _ _ => by kernel_rfl) fun _ => rfl
theorem ok_w47q : EnvOK Tryz.prog G_w47q := okc ok_w46q Tryz.func136 (by kernel_rfl) a_w47q 0 p_w47q (fun _ _ => by kernel_rfl) fun _ => rfl
theorem ok_w48q : EnvOK Tryz.prog G_w48q := okc ok_w47q Tryz.func221 (by kernel_rfl) a_w48q 0 p_w48q (fun _ _ => by kernel_rfl) fun _ => rfl
theorem ok_w49q : EnvOK Tryz.prog G_w49q := okc ok_w48q Tryz.func116 (by kernel_rfl) a_w49q 0 p_w49q (fun _ _ => by kernel_rfl) fun _ => rfl
theorem ok_w50q : EnvOK Tryz.prog G_w50q := okc ok_w49q Tryz.func46 (by kernel_rfl) a_w50q 0 p_w50q (fun _ _ => by kernel_rfl) fun _ => rfl
theorem ok_w51q : EnvOK Tryz.prog G_w51q := okc ok_w50q Tryz.func117 (by kernel_rfl) a_w51q 0 p_w51q (fun _ _ => by kernel_rfl) fun _ => rfl
theorem ok_w52q : EnvOK Tryz.prog G_w52q := okc ok_w51q Tryz.func70 (by kernel_rfl) a_w52q 0 p_w52q (fun _ _ => by kernel_rfl) fun _ => rfl
theorem ok_w53q : EnvOK Tryz.prog G_w53q := okc ok_w52q Tryz.func420 (by kernel_rfl) a_w53q 0 p_w53q (fun _ _ => by kernel_rfl) fun _ => rfl
theorem ok_w54q : EnvOK Tryz.prog G_w54q := okc ok_w53q Tryz.func352 (by kernel_rfl) a_w54q 0 p_w54q (fun _ _ => by kernel_rfl) fun _ => rfl
theorem ok_w55q : EnvOK Tryz.prog G_w55q := okc ok_w54q Tryz.func263 (by kernel_rfl) a_w55q 0 p_w55q (fun _ _ => by kernel_rfl) fun _ => rfl
theorem ok_w56q : EnvOK Tryz.prog G_w56q := okc ok_w55q Tryz.func264 (by kernel_rfl) a_w56q 0 p_w56q (fun _ _ => by kernel_rfl) fun _ => rfl
theorem ok_w57q : EnvOK Tryz.prog G_w57q := okc ok_w56q Tryz.func353 (by kernel_rfl) a_w57q 0 p_w57q (fun _ _ => by kernel_rfl) fun _ => rfl
theorem ok_w58q : EnvOK Tryz.prog G_w58q := okc ok_w57q Tryz.func354 (by kernel_rfl) a_w58q 0 p_w58q (fun _ _ => by kernel_rfl) fun _ => rfl
theorem ok_w59q : EnvOK Tryz.prog G_w59q := okc ok_w58q Tryz.func355 (by kernel_rfl) a_w59q 0 p_w59q (fun _ _ => by kernel_rfl) fun _ => rfl
theorem ok_w60q : EnvOK Tryz.prog G_w60q := okc ok_w59q Tryz.func43 (by kernel_rfl) a_w60q 0 p_w60q (fun _ _ => by kernel_rfl) fun _ => rfl
theorem ok_w61q : EnvOK Tryz.prog G_w61q := okc ok_w60q Tryz.func356 (by kernel_rfl) a_w61q 0 p_w61q (fun _ _ => by kernel_rfl) fun _ => rfl
theorem ok_w62q : EnvOK Tryz.prog G_w62q := okc ok_w61q Tryz.func357 (by kernel_rfl) a_w62q 0 p_w62q (fun _ _ => by kernel_rfl) fun _ => rfl
theorem ok_w63q : EnvOK Tryz.prog G_w63q := okc ok_w62q Tryz.func421 (by kernel_rfl) a_w63q 0 p_w63q (fun _ _ => by kernel_rfl) fun _ => rfl
theorem ok_w64q : EnvOK Tryz.prog G_w64q := okc ok_w63q Tryz.func358 (by kernel_rfl) a_w64q 0 p_w64q (fun _ _ => by kernel_rfl) fun _ => rfl
theorem ok_w65q : EnvOK Tryz.prog G_w65q := okc ok_w64q Tryz.func265 (by kernel_rfl) a_w65q 0 p_w65q (fun _ _ => by kernel_rfl) fun _ => rfl
theorem ok_w66q : EnvOK Tryz.prog G_w66q := okc ok_w65q Tryz.func155 (by kernel_rfl) a_w66q 0 p_w66q (fun _ _ => by kernel_rfl) fun _ => rfl
theorem ok_w67q : EnvOK Tryz.prog G_w67q := okc ok_w66q Tryz.func118 (by kernel_rfl) a_w67q 0 p_w67q (fun _ _ => by kernel_rfl) fun _ => rfl
theorem ok_w68q : EnvOK Tryz.prog G_w68q := okc ok_w67q Tryz.func156 (by kernel_rfl) a_w68q 0 p_w68q (fun _ _ => by kernel_rfl) fun _ => rfl
theorem ok_w69q : EnvOK Tryz.prog G_w69q := okc ok_w68q Tryz.func119 (by kernel_rfl) a_w69q 0 p_w69q (fun _ _ => by kernel_rfl) fun _ => rfl
theorem ok_w70q : EnvOK Tryz.prog G_w70q := okc ok_w69q Tryz.func71 (by kernel_rfl) a_w70q 0 p_w70q (fun _ _ => by kernel_rfl) fun _ => rfl
theorem ok_w71q : EnvOK Tryz.prog G_w71q := okc ok_w70q Tryz.func159 (by kernel_rfl) a_w71q 0 p_w71q (fun _ _ => by kernel_rfl) fun _ => rfl
theorem ok_w72q : EnvOK Tryz.prog G_w72q := okc ok_w71q Tryz.func160 (by kernel_rfl) a_w72q 0 p_w72q (fun _ _ => by kernel_rfl) fun _ => rfl
theorem ok_w73q : EnvOK Tryz.prog G_w73q := okc ok_w72q Tryz.func163 (by kernel_rfl) a_w73q 0 p_w73q (fun _ _ => by kernel_rfl) fun _ => rfl
theorem ok_w74q : EnvOK Tryz.prog G_w74q := okc ok_w73q Tryz.func359 (by kernel_rfl) a_w74q 0 p_w74q (fun _ _ => by kernel_rfl) fun _ => rfl
theorem ok_w75q : EnvOK Tryz.prog G_w75q := okc ok_w74q Tryz.func266 (by kernel_rfl) a_w75q 0 p_w75q (fun _ _ => by kernel_rfl) fun _ => rfl
theorem ok_w76q : EnvOK Tryz.prog G_w76q := okc ok_w75q Tryz.func267 (by kernel_rfl) a_w76q 0 p_w76q (fun _ _ => by kernel_rfl) fun _ => rfl
theorem ok_w77q : EnvOK Tryz.prog G_w77q := okc ok_w76q Tryz.func157 (by kernel_rfl) a_w77q 0 p_w77q (fun _ _ => by kernel_rfl) fun _ => rfl
theorem ok_w78q : EnvOK Tryz.prog G_w78q := okc ok_w77q Tryz.func72 (by kernel_rfl) a_w78q 0 p_w78q (fun _ _ => by kernel_rfl) fun _ => rfl
theorem ok_w79q : EnvOK Tryz.prog G_w79q := okc ok_w78q Tryz.func164 (by kernel_rfl) a_w79q 0 p_w79q (fun _ _ => by kernel_rfl) fun _ => rfl
theorem ok_w80q : EnvOK Tryz.prog G_w80q := okc ok_w79q Tryz.func158 (by kernel_rfl) a_w80q 0 p_w80q (fun _ _ => by kernel_rfl) fun _ => rfl
theorem ok_w81q : EnvOK Tryz.prog G_w81q := okc ok_w80q Tryz.func161 (by kernel_rfl) a_w81q 0 p_w81q (fun _ _ => by kernel_rfl) fun _ => rfl
theorem ok_w82q : EnvOK Tryz.prog G_w82q := okc ok_w81q Tryz.func73 (by kernel_rfl) a_w82q 0 p_w82q (fun _ _ => by kernel_rfl) fun _ => rfl
theorem ok_w83q : EnvOK Tryz.prog G_w83q := okc ok_w82q Tryz.func162 (by kernel_rfl) a_w83q 0 p_w83q (fun _ _ => by kernel_rfl) fun _ => rfl
theorem ok_w84q : EnvOK Tryz.prog G_w84q := okc ok_w83q Tryz.func165 (by kernel_rfl) a_w84q 0 p_w84q (fun _ _ => by kernel_rfl) fun _ => rfl
theorem ok_w85q : EnvOK Tryz.prog G_w85q := okc ok_w84q Tryz.func74 (by kernel_rfl) a_w85q 0 p_w85q (fun _ _ => by kernel_rfl) fun _ => rfl
theorem ok_w86q : EnvOK Tryz.prog G_w86q := okc ok_w85q Tryz.func19 (by kernel_rfl) a_w86q 0 p_w86q (fun _ _ => by kernel_rfl) fun _ => rfl
theorem ok_w87q : EnvOK Tryz.prog G_w87q := okc ok_w86q Tryz.func97 (by kernel_rfl) a_w87q 0 p_w87q (fun _ _ => by kernel_rfl) fun _ => rfl
theorem ok_w88q : EnvOK Tryz.prog G_w88q := okc ok_w87q Tryz.func388 (by kernel_rfl) a_w88q 0 p_w88q (fun _ _ => by kernel_rfl) fun _ => rfl
theorem ok_w89q : EnvOK Tryz.prog G_w89q := okc ok_w88q Tryz.func310 (by kernel_rfl) a_w89q 0 p_w89q (fun _ _ => by kernel_rfl) fun _ => rfl
theorem ok_w90q : EnvOK Tryz.prog G_w90q := okc ok_w89q Tryz.func192 (by kernel_rfl) a_w90q 0 p_w90q (fun _ _ => by kernel_rfl) fun _ => rfl
theorem ok_w91q : EnvOK Tryz.prog G_w91q := okc ok_w90q Tryz.func112 (by kernel_rfl) a_w91q 0 p_w91q (fun _ _ => by kernel_rfl) fun _ => rfl
theorem ok_w92q : EnvOK Tryz.prog G_w92q := okc ok_w91q Tryz.func193 (by kernel_rfl) a_w92q 0 p_w92q (fun _ _ => by kernel_rfl) fun _ => rfl
theorem ok_w93q : EnvOK Tryz.prog G_w93q := okc ok_w92q Tryz.func194 (by kernel_rfl) a_w93q 0 p_w93q (fun _ _ => by kernel_rfl) fun _ => rfl
theorem ok_w94q : EnvOK Tryz.prog G_w94q := okc ok_w93q Tryz.func99 (by kernel_rfl) a_w94q 0 p_w94q (fun _ _ => by kernel_rfl) fun _ => rfl
theorem ok_w95q : EnvOK Tryz.prog G_w95q := okc ok_w94q Tryz.func23 (by kernel_rfl) a_w95q 0 p_w95q (fun _ _ => by kernel_rfl) fun _ => rfl
theorem ok_w96q : EnvOK Tryz.prog G_w96q := okc ok_w95q Tryz.func81 (by kernel_rfl) a_w96q 0 p_w96q (fun _ _ => by kernel_rfl) fun _ => rfl
theorem ok_w97q : EnvOK Tryz.prog G_w97q := okc ok_w96q Tryz.func80 (by kernel_rfl) a_w97q 0 p_w97q (fun _ _ => by kernel_rfl) fun _ => rfl
theorem ok_w98q : EnvOK Tryz.prog G_w98q := okc ok_w97q Tryz.func82 (by kernel_rfl) a_w98q 0 p_w98q (fun _ _ => by kernel_rfl) fun _ => rfl
theorem ok_w99q : EnvOK Tryz.prog G_w99q := okc ok_w98q Tryz.func63 (by kernel_rfl) a_w99q 0 p_w99q (fun _ _ => by kernel_rfl) fun _ => rfl
theorem ok_w100q : EnvOK Tryz.prog G_w100q := okc ok_w99q Tryz.func222 (by kernel_rfl) a_w100q 0 p_w100q (fun _ _ => by kernel_rfl) fun _ => rfl
theorem ok_w101q : EnvOK Tryz.prog G_w101q := okc ok_w100q Tryz.func278 (by kernel_rfl) a_w101q 0 p_w101q (fun _ _ => by kernel_rfl) fun _ => rfl
theorem ok_w102q : EnvOK Tryz.prog G_w102q := okc ok_w101q Tryz.func414 (by kernel_rfl) a_w102q 0 p_w102q (fun _ _ => by kernel_rfl) fun _ => rfl
theorem ok_w103q : EnvOK Tryz.prog G_w103q := okc ok_w102q Tryz.func336 (by kernel_rfl) a_w103q 0 p_w103q (fun _ _ => by kernel_rfl) fun _ => rfl
theorem ok_w104q : EnvOK Tryz.prog G_w104q := okc ok_w103q Tryz.func223 (by kernel_rfl) a_w104q 0 p_w104q (fun _ _ => by kernel_rfl) fun _ => rfl
theorem ok_w105q : EnvOK Tryz.prog G_w105q := okc ok_w104q Tryz.func226 (by kernel_rfl) a_w105q 0 p_w105q (fun _ _ => by kernel_rfl) fun _ => rfl
theorem ok_w106q : EnvOK Tryz.prog G_w106q := okc ok_w105q Tryz.func122 (by kernel_rfl) a_w106q 3 p_w106q (fun _ _ => by kernel_rfl) fun _ => rfl
theorem ok_w107q : EnvOK Tryz.prog G_w107q := okc ok_w106q Tryz.func277 (by kernel_rfl) a_w107q 0 p_w107q (fun _ _ => by kernel_rfl) fun _ => rfl
theorem ok_w108q : EnvOK Tryz.prog G_w108q := okc ok_w107q Tryz.func171 (by kernel_rfl) a_w108q 3 p_w108q (fun _ _ => by kernel_rfl) fun _ => rfl
theorem ok_w109q : EnvOK Tryz.prog G_w109q := okc ok_w108q Tryz.func83 (by kernel_rfl) a_w109q 0 p_w109q (fun _ _ => by kernel_rfl) fun _ => rfl
theorem ok_w110q : EnvOK Tryz.prog G_w110q := okc ok_w109q Tryz.func335 (by kernel_rfl) a_w110q 0 p_w110q (fun _ _ => by kernel_rfl) fun _ => rfl
theorem ok_w111q : EnvOK Tryz.prog G_w111q := okc ok_w110q Tryz.func218 (by kernel_rfl) a_w111q 0 p_w111q (fun _ _ => by kernel_rfl) fun _ => rfl
theorem ok_w112q : EnvOK Tryz.prog G_w112q := okc ok_w111q Tryz.func251 (by kernel_rfl) a_w112q 0 p_w112q (fun _ _ => by kernel_rfl) fun _ => rfl
theorem ok_w113q : EnvOK Tryz.prog G_w113q := okc ok_w112q Tryz.func366 (by kernel_rfl) a_w113q 0 p_w113q (fun _ _ => by kernel_rfl) fun _ => rfl
theorem ok_w114q : EnvOK Tryz.prog G_w114q := okc ok_w113q Tryz.func279 (by kernel_rfl) a_w114q 0 p_w114q (fun _ _ => by kernel_rfl) fun _ => rfl
theorem ok_w115q : EnvOK Tryz.prog G_w115q := okc ok_w114q Tryz.func281 (by kernel_rfl) a_w115q 0 p_w115q (fun _ _ => by kernel_rfl) fun _ => rfl
theorem ok_w116q : EnvOK Tryz.prog G_w116q := okc ok_w115q Tryz.func282 (by kernel_rfl) a_w116q 0 p_w116q (fun _ _ => by kernel_rfl) fun _ => rfl
theorem ok_w117q : EnvOK Tryz.prog G_w117q := okc ok_w116q Tryz.func287 (by kernel_rfl) a_w117q 0 p_w117q (fun _ _ => by kernel_rfl) fun _ => rfl
theorem ok_w118q : EnvOK Tryz.prog G_w118q := okc ok_w117q Tryz.func459 (by kernel_rfl) a_w118q 0 p_w118q (fun _ _ => by kernel_rfl) fun _ => rfl
theorem ok_w119q : EnvOK Tryz.prog G_w119q := okc ok_w118q Tryz.func423 (by kernel_rfl) a_w119q 1 p_w119q (fun _ _ => by kernel_rfl) fun _ => rfl
theorem ok_w120q : EnvOK Tryz.prog G_w120q := okc ok_w119q Tryz.func367 (by kernel_rfl) a_w120q 0 p_w120q (fun _ _ => by kernel_rfl) fun _ => rfl
theorem ok_w121q : EnvOK Tryz.prog G_w121q := okc ok_w120q Tryz.func283 (by kernel_rfl) a_w121q 0 p_w121q (fun _ _ => by kernel_rfl) fun _ => rfl
theorem ok_w122q : EnvOK Tryz.prog G_w122q := okc ok_w121q Tryz.func57 (by kernel_rfl) a_w122q 0 p_w122q (fun _ _ => by kernel_rfl) fun _ => rfl
theorem ok_w123q : EnvOK Tryz.prog G_w123q := okc ok_w122q Tryz.func425 (by kernel_rfl) a_w123q 0 p_w123q (fun _ _ => by kernel_rfl) fun _ => rfl
theorem ok_w124q : EnvOK Tryz.prog G_w124q := okc ok_w123q Tryz.func368 (by kernel_rfl) a_w124q 1 p_w124q (fun _ _ => by kernel_rfl) fun _ => rfl
theorem ok_w125q : EnvOK Tryz.prog G_w125q := okc ok_w124q Tryz.func284 (by kernel_rfl) a_w125q 0 p_w125q (fun _ _ => by kernel_rfl) fun _ => rfl
def ren_w126q : Go.Shelf.Ren := ⟨fun n => if n = 6 then 370 else if n = 8 then 426 else if n = 9 then 55 else if n = 11 then 460 else if n = 13 then 142 else if n = 12 then 141 else if n = 23 then 249 else if n = 24 then 250 else if n = 14 then 240 else if n = 15 then 241 else if n = 16 then 242 else if n = 17 then 243 else if n = 18 then 244 else if n = 19 then 245 else if n = 20 then 246 else if n = 21 then 247 else if n = 22 then 248 else if n = 25 then 341 else if n = 26 then 342 else if n = 27 then 343 else if n = 28 then 344 else if n = 29 then 345 else if n = 30 then 335 else if n = 31 then 416 else n,fun n => if n = 26 then 2 else if n = 28 then 393 else if n = 24 then 25 else if n = 0 then 0 else if n = 3 then 3 else if n = 37 then 183 else if n = 48 then 292 else if n = 50 then 294 else if n = 4 then 4 else if n = 40 then 286 else if n = 39 then 285 else if n = 45 then 279 else if n = 5 then 5 else if n = 9 then 9 else if n = 51 then 359 else if n = 55 then 363 else if n = 57 then 421 else if n = 58 then 422 else if n = 33 then 107 else n,fun n => n⟩
theorem lays_w126q : Go.Proofs.SlLaysZI.n6 Tryz.prog ren_w126q where
 mixed := by kernel_rfl
 f6 := ⟨"slices.Sorted[int64]", by decide, Tryz.func370.trans (congrArg some (by kernel_rfl))⟩
 f8 := ⟨"slices.Collect[int64]", by decide, Tryz.func426.trans (congrArg some (by kernel_rfl))⟩
 f11 := ⟨"slices.AppendSeq[[]int64,int64]", by decide, Tryz.func460.trans (congrArg some (by kernel_rfl))⟩
 t0 := Tryz.underlying0
 a0 := Tryz.isAgg0
 z0 := Tryz.sizeOf0
 v0 := Tryz.zeroValue0
 t24 := Tryz.underlying25
 a24 := Tryz.isAgg25
 z24 := Tryz.sizeOf25
 v24 := Tryz.zeroValue25
 t26 := Tryz.underlying2
 a26 := Tryz.isAgg2
 z26 := Tryz.sizeOf2
 v26 := Tryz.zeroValue2
 t28 := Tryz.underlying393
 a28 := Tryz.isAgg393
 z28 := Tryz.sizeOf393
 v28 := Tryz.zeroValue393
 i26 := by kernel_rfl
def ren_slices_Sorted_int64s : Go.Shelf.Ren := ⟨fun n => if n = 5 then 55 else if n = 8 then 142 else if n = 7 then 141 else if n = 19 then 249 else if n = 20 then 250 else if n = 10 then 240 else if n = 11 then 241 else if n = 12 then 242 else if n = 13 then 243 else if n = 14 then 244 else if n = 15 then 245 else if n = 16 then 246 else if n = 17 then 247 else if n = 18 then 248 else if n = 30 then 341 else if n = 31 then 342 else if n = 32 then 343 else if n = 33 then 344 else if n = 34 then 345 else if n = 35 then 335 else if n = 40 then 416 else n,fun n => if n = 23 then 25 else if n = 25 then 2 else if n = 3 then 3 else if n = 32 then 183 else if n = 22 then 25 else if n = 0 then 0 else if n = 44 then 292 else if n = 46 then 294 else if n = 4 then 4 else if n = 36 then 286 else if n = 35 then 285 else if n = 41 then 279 else if n = 5 then 5 else if n = 9 then 9 else if n = 53 then 359 else if n = 57 then 363 else if n = 63 then 421 else if n = 64 then 422 else n,fun n => n⟩
theorem lays_slices_Sorted_int64s : Go.Proofs.SlLaysM.n5 Tryz.prog ren_slices_Sorted_int64s where
 mixed := by kernel_rfl
 f5 := ⟨"slices.Sort[[]int64,int64]", by decide, Tryz.func55.trans (congrArg some (by kernel_rfl))⟩
 f7 := ⟨"slices.pdqsortOrdered[int64]", by decide, Tryz.func141.trans (congrArg some (by kernel_rfl))⟩
 f8 := Tryz.func142.trans (congrArg some (by kernel_rfl))
 f10 := ⟨"slices.insertionSortOrdered[int64]", by decide, Tryz.func240.trans (congrArg some (by kernel_rfl))⟩
 f11 := ⟨"slices.heapSortOrdered[int64]", by decide, Tryz.func241.trans (congrArg some (by kernel_rfl))⟩
 f12 := ⟨"slices.breakPatternsOrdered[int64]", by decide, Tryz.func242.trans (congrArg some (by kernel_rfl))⟩
 f13 := ⟨"slices.choosePivotOrdered[int64]", by decide, Tryz.func243.trans (congrArg some (by kernel_rfl))⟩
 f14 := ⟨"slices.reverseRangeOrdered[int64]", by decide, Tryz.func244.trans (congrArg some (by kernel_rfl))⟩
 f15 := ⟨"slices.partialInsertionSortOrdered[int64]", by decide, Tryz.func245.trans (congrArg some (by kernel_rfl))⟩
 f16 := ⟨"cmp.Less[int64]", by decide, Tryz.func246.trans (congrArg some (by kernel_rfl))⟩
 f17 := ⟨"slices.partitionEqualOrdered[int64]", by decide, Tryz.func247.trans (congrArg some (by kernel_rfl))⟩
 f18 := ⟨"slices.partitionOrdered[int64]", by decide, Tryz.func248.trans (congrArg some (by kernel_rfl))⟩
 f19 := Tryz.func249.trans (congrArg some (by kernel_rfl))
 f20 := Tryz.func250.trans (congrArg some (by kernel_rfl))
 f30 := ⟨"slices.siftDownOrdered[int64]", by decide, Tryz.func341.trans (congrArg some (by kernel_rfl))⟩
 f31 := Tryz.func342.trans (congrArg some (by kernel_rfl))
 f32 := Tryz.func343.trans (congrArg some (by kernel_rfl))
 f33 := ⟨"slices.medianAdjacentOrdered[int64]", by decide, Tryz.func344.trans (congrArg some (by kernel_rfl))⟩
 f34 := ⟨"slices.medianOrdered[int64]", by decide, Tryz.func345.trans (congrArg some (by kernel_rfl))⟩
 f35 := ⟨"cmp.isNaN[int64]", by decide, Tryz.func335.trans (congrArg some (by kernel_rfl))⟩
 f40 := ⟨"slices.order2Ordered[int64]", by decide, Tryz.func416.trans (congrArg some (by kernel_rfl))⟩
 t0 := Tryz.underlying0
 a0 := Tryz.isAgg0
 z0 := Tryz.sizeOf0
 v0 := Tryz.zeroValue0
 t3 := Tryz.underlying3
 a3 := Tryz.isAgg3
 z3 := Tryz.sizeOf3
 v3 := Tryz.zeroValue3
 t4 := Tryz.underlying4
 a4 := Tryz.isAgg4
 z4 := Tryz.sizeOf4
 v4 := Tryz.zeroValue4
 t5 := Tryz.underlying5
 a5 := Tryz.isAgg5
 z5 := Tryz.sizeOf5
 v5 := Tryz.zeroValue5
 t9 := Tryz.underlying9
 a9 := Tryz.isAgg9
 z9 := Tryz.sizeOf9
 v9 := Tryz.zeroValue9
 t22 := Tryz.underlying25
 a22 := Tryz.isAgg25
 z22 := Tryz.sizeOf25
 v22 := Tryz.zeroValue25
 t23 := Tryz.underlying25
 a23 := Tryz.isAgg25
 z23 := Tryz.sizeOf25
 v23 := Tryz.zeroValue25
 t25 := Tryz.underlying2
 a25 := Tryz.isAgg2
 z25 := Tryz.sizeOf2
 v25 := Tryz.zeroValue2
 t32 := Tryz.underlying183
 a32 := Tryz.isAgg183
 z32 := Tryz.sizeOf183
 v32 := Tryz.zeroValue183
 t35 := Tryz.underlying285
 a35 := Tryz.isAgg285
 z35 := Tryz.sizeOf285
 v35 := Tryz.zeroValue285
 t36 := Tryz.underlying286
 a36 := Tryz.isAgg286
 z36 := Tryz.sizeOf286
 v36 := Tryz.zeroValue286
 t41 := Tryz.underlying279
 a41 := Tryz.isAgg279
 z41 := Tryz.sizeOf279
 v41 := Tryz.zeroValue279
 t44 := Tryz.underlying292
 a44 := Tryz.isAgg292
 z44 := Tryz.sizeOf292
 v44 := Tryz.zeroValue292
 t46 := Tryz.underlying294
 a46 := Tryz.isAgg294
 z46 := Tryz.sizeOf294
 v46 := Tryz.zeroValue294
 t53 := Tryz.underlying359
 a53 := Tryz.isAgg359
 z53 := Tryz.sizeOf359
 v53 := Tryz.zeroValue359
 t57 := Tryz.underlying363
 a57 := Tryz.isAgg363
 z57 := Tryz.sizeOf363
 v57 := Tryz.zeroValue363
 t63 := Tryz.underlying421
 a63 := Tryz.isAgg421
 z63 := Tryz.sizeOf421
 v63 := Tryz.zeroValue421
 t64 := Tryz.underlying422
 a64 := Tryz.isAgg422
 z64 := Tryz.sizeOf422
 v64 := Tryz.zeroValue422
section
attribute [local go_sem] Oper.semAt_some
set_option maxRecDepth 100000 in
set_option maxHeartbeats 2000000 in
theorem values1_w126q (n : Nat) (hn : 1 ≤ n) (l Bs n₀ b off cap : Nat) (zs : List Int) (hreach : zs.length * 8 ≤ 140737488351232) (hb : b < n₀) (w0 : World) (J : List Int → World → Prop) (hB : ∀ pre W1,J pre W1 → Below n₀ w0 W1)
  (hY : ∀ pre x W,J pre W → pre.length < zs.length → YieldAt Fence.wide (n - 1) Tryz.prog l #[.int .i64 x] W fun e W' => e = .returned (.bool true) ∧ J (pre ++ [x]) W' ∧ KeepsWalks W W')
  (W : World) (hBs : W.cell? ⟨Bs,0,none⟩ = some (.slice (some ⟨b,off,none⟩) zs.length cap)) (hc : ∀ j (h : j < zs.length),w0.cell? ⟨b,off + j,none⟩ = some (.int .i64 zs[j])) (h0 : J [] W) :
  CallsIn Fence.wide n Tryz.prog 427 #[.func (.yield l) #[] #[],.pointer (some ⟨Bs,0,none⟩)] W fun e W' => (∃ v,e = .returned v) ∧ J zs W' := by
 have hro : Fence.wide.round = none := rfl
 have h7 : Fence.wide.fn 427 := trivial
 refine callsIn_of_wp Tryz.func427 rfl h7 ?_ hro
 simp only [Tryz.ntmps427,List.size_toArray,List.length_cons,List.length_nil,Nat.reduceAdd,Nat.reduceSub,Array.replicate_succ,Array.replicate_zero,List.push_toArray,List.append_toArray,List.nil_append,List.cons_append]
 gi_wp2
 gi_loopw [7] (fun i wr => ∃ k : Nat,k ≤ zs.length ∧ i = .int .i64 k ∧ J (zs.take k) wr)
  (fun i _ => zs.length - (Go.RowKit.intOf i).toNat)
 case atStart => exact ⟨0,Nat.zero_le _,rfl,h0⟩
 case round =>
  obtain ⟨k,hk,rfl,hJs⟩ := hrel
  have hnx := hB _ _ hJs
  by_cases hlt : k < zs.length
  ·have hcx : wr.cell? ⟨b,off + k,none⟩ = some (.int .i64 zs[k]) := (hnx.cell (p := ⟨b,off + k,none⟩) hb).trans (hc k hlt)
   obtain ⟨fn,tmps,assign,body,hy,hR⟩ := hY _ zs[k] wr hJs (by rw [List.length_take]; omega)
   generalize hzk : zs[k] = zk at hcx hR hy
   gi_wp2
   refine hR.mono ?_
   rintro e W3 ⟨rfl,hJ3,hk3⟩
   gi_wp2
   go_roundw
   case rel => exact ⟨k + 1,by omega,by simp,by rw [List.take_succ_eq_append_getElem hlt,hzk]; exact hJ3⟩
   case measure => simp [Go.RowKit.intOf]; omega
  ·obtain rfl : k = zs.length := by omega
   gi_wp2
   go_end0
   exact ⟨⟨_,rfl⟩,by rw [List.take_length] at hJs; exact hJs⟩
set_option maxRecDepth 100000 in
set_option maxHeartbeats 1000000 in
theorem values0_w126q (n : Nat) (l Bs : Nat) (A : Option Addr) (cap : Nat) (J : List Int → World → Prop) (W : World) (hBs : W.cell? ⟨Bs,0,none⟩ = some (.slice A 0 cap)) (h0 : J [] W) :
  CallsIn Fence.wide n Tryz.prog 427 #[.func (.yield l) #[] #[],.pointer (some ⟨Bs,0,none⟩)] W fun e W' => (∃ v,e = .returned v) ∧ J [] W' := by
 have hro : Fence.wide.round = none := rfl
 have h7 : Fence.wide.fn 427 := trivial
 refine callsIn_of_wp Tryz.func427 rfl h7 ?_ hro
 simp only [Tryz.ntmps427,List.size_toArray,List.length_cons,List.length_nil,Nat.reduceAdd,Nat.reduceSub,Array.replicate_succ,Array.replicate_zero,List.push_toArray,List.append_toArray,List.nil_append,List.cons_append]
 gi_wp2
 gi_loopw [7] (fun i wr => i = .int .i64 0 ∧ J [] wr) (fun _ _ => 0)
 case atStart => exact ⟨rfl,h0⟩
 case round =>
  obtain ⟨rfl,hJs⟩ := hrel
  gi_wp2
  go_end0
  exact ⟨⟨_,rfl⟩,hJs⟩
end
theorem sound_w126q : Sound Tryz.prog 370 S_w126q := sound_sorted fun w Bs zs hr hI => callsIn_wide.1 (sortedB lays_w126q 4 (by omega) (sortsWide lays_slices_Sorted_int64s rfl 3) (enters_of Tryz.func55 (by kernel_rfl) rfl) 427 _ (enters_of Tryz.func427 (by kernel_rfl) rfl) zs (by simp only [maxLen]; omega) (by omega) w (fun W hW => gives_of values1_w126q values0_w126q 1 (by omega) W Bs zs hr (hI.below hW)))
theorem ok_w126q : EnvOK Tryz.prog G_w126q := envOK_sound ok_w125q ⟨_,Tryz.func370,by kernel_rfl,by kernel_rfl⟩ sound_w126q
theorem ok_w127q : EnvOK Tryz.prog G_w127q := okc ok_w126q Tryz.func369 (by kernel_rfl) a_w127q 0 p_w127q (fun _ _ => by kernel_rfl) fun _ => rfl
theorem ok_w128q : EnvOK Tryz.prog G_w128q := okc ok_w127q Tryz.func285 (by kernel_rfl) a_w128q 1 p_w128q (fun _ _ => by kernel_rfl) fun _ => rfl
theorem ok_w129q : EnvOK Tryz.prog G_w129q := okc ok_w128q Tryz.func374 (by kernel_rfl) a_w129q 6 p_w129q (fun _ _ => by kernel_rfl) fun _ => rfl
theorem ok_w130q : EnvOK Tryz.prog G_w130q := okc ok_w129q Tryz.func461 (by kernel_rfl) a_w130q 1 p_w130q (fun _ _ => by kernel_rfl) fun _ => rfl
theorem ok_w131q : EnvOK Tryz.prog G_w131q := okc ok_w130q Tryz.func430 (by kernel_rfl) a_w131q 0 p_w131q (fun _ _ => by kernel_rfl) fun _ => rfl
theorem ok_w132q : EnvOK Tryz.prog G_w132q := okc ok_w131q Tryz.func375 (by kernel_rfl) a_w132q 0 p_w132q (fun _ _ => by kernel_rfl) fun _ => rfl
theorem ok_w133q : EnvOK Tryz.prog G_w133q := okc ok_w132q Tryz.func286 (by kernel_rfl) a_w133q 3 p_w133q (fun _ _ => by kernel_rfl) fun _ => rfl
theorem ok_w134q : EnvOK Tryz.prog G_w134q := okc ok_w133q Tryz.func172 (by kernel_rfl) a_w134q 2 p_w134q (fun _ _ => by kernel_rfl) fun _ => rfl
theorem ok_w135q : EnvOK Tryz.prog G_w135q := okc ok_w134q Tryz.func176 (by kernel_rfl) a_w135q 2 p_w135q (fun _ _ => by kernel_rfl) fun _ => rfl
theorem ok_w136q : EnvOK Tryz.prog G_w136q := okc ok_w135q Tryz.func174 (by kernel_rfl) a_w136q 0 p_w136q (fun _ _ => by kernel_rfl) fun _ => rfl
theorem ok_w137q : EnvOK Tryz.prog G_w137q := okc ok_w136q Tryz.func291 (by kernel_rfl) a_w137q 0 p_w137q (fun _ _ => by kernel_rfl) fun _ => rfl
theorem ok_w138q : EnvOK Tryz.prog G_w138q := okc ok_w137q Tryz.func177 (by kernel_rfl) a_w138q 0 p_w138q (fun _ _ => by kernel_rfl) fun _ => rfl
theorem ok_w139q : EnvOK Tryz.prog G_w139q := okc ok_w138q Tryz.func84 (by kernel_rfl) a_w139q 3 p_w139q (fun _ _ => by kernel_rfl) fun _ => rfl
theorem ok_w140q : EnvOK Tryz.prog G_w140q := okc ok_w139q Tryz.func297 (by kernel_rfl) a_w140q 0 p_w140q (fun _ _ => by kernel_rfl) fun _ => rfl
theorem ok_w141q : EnvOK Tryz.prog G_w141q := okc ok_w140q Tryz.func301 (by kernel_rfl) a_w141q 0 p_w141q (fun _ _ => by kernel_rfl) fun _ => rfl
theorem ok_w142q : EnvOK Tryz.prog G_w142q := okc ok_w141q Tryz.func376 (by kernel_rfl) a_w142q 0 p_w142q (fun _ _ => by kernel_rfl) fun _ => rfl
theorem ok_w143q : EnvOK Tryz.prog G_w143q := okc ok_w142q Tryz.func300 (by kernel_rfl) a_w143q 0 p_w143q (fun _ _ => by kernel_rfl) fun _ => rfl
theorem ok_w144q : EnvOK Tryz.prog G_w144q := okc ok_w143q Tryz.func377 (by kernel_rfl) a_w144q 0 p_w144q (fun _ _ => by kernel_rfl) fun _ => rfl
theorem ok_w145q : EnvOK Tryz.prog G_w145q := okc ok_w144q Tryz.func292 (by kernel_rfl) a_w145q 0 p_w145q (fun _ _ => by kernel_rfl) fun _ => rfl
theorem ok_w146q : EnvOK Tryz.prog G_w146q := okc ok_w145q Tryz.func293 (by kernel_rfl) a_w146q 0 p_w146q (fun _ _ => by kernel_rfl) fun _ => rfl
theorem ok_w147q : EnvOK Tryz.prog G_w147q := okc ok_w146q Tryz.func178 (by kernel_rfl) a_w147q 0 p_w147q (fun _ _ => by kernel_rfl) fun _ => rfl
theorem ok_w148q : EnvOK Tryz.prog G_w148q := okc ok_w147q Tryz.func86 (by kernel_rfl) a_w148q 3 p_w148q (fun _ _ => by kernel_rfl) fun _ => rfl
theorem ok_w149q : EnvOK Tryz.prog G_w149q := okc ok_w148q Tryz.func295 (by kernel_rfl) a_w149q 0 p_w149q (fun _ _ => by kernel_rfl) fun _ => rfl
theorem ok_w150q : EnvOK Tryz.prog G_w150q := okc ok_w149q Tryz.func298 (by kernel_rfl) a_w150q 0 p_w150q (fun _ _ => by kernel_rfl) fun _ => rfl
theorem ok_w151q : EnvOK Tryz.prog G_w151q := okc ok_w150q Tryz.func379 (by kernel_rfl) a_w151q 0 p_w151q (fun _ _ => by kernel_rfl) fun _ => rfl
theorem ok_w152q : EnvOK Tryz.prog G_w152q := okc ok_w151q Tryz.func338 (by kernel_rfl) a_w152q 0 p_w152q (fun _ _ => by kernel_rfl) fun _ => rfl
theorem ok_w153q : EnvOK Tryz.prog G_w153q := okc ok_w152q Tryz.func228 (by kernel_rfl) a_w153q 0 p_w153q (fun _ _ => by kernel_rfl) fun _ => rfl
theorem ok_w154q : EnvOK Tryz.prog G_w154q := okc ok_w153q Tryz.func296 (by kernel_rfl) a_w154q 3 p_w154q (fun _ _ => by kernel_rfl) fun _ => rfl
theorem ok_w155q : EnvOK Tryz.prog G_w155q := okc ok_w154q Tryz.func181 (by kernel_rfl) a_w155q 0 p_w155q (fun _ _ => by kernel_rfl) fun _ => rfl
theorem ok_w156q : EnvOK Tryz.prog G_w156q := okc ok_w155q Tryz.func299 (by kernel_rfl) a_w156q 0 p_w156q (fun _ _ => by kernel_rfl) fun _ => rfl
theorem ok_w157q : EnvOK Tryz.prog G_w157q := okc ok_w156q Tryz.func182 (by kernel_rfl) a_w157q 0 p_w157q (fun _ _ => by kernel_rfl) fun _ => rfl
theorem ok_w158q : EnvOK Tryz.prog G_w158q := okc ok_w157q Tryz.func88 (by kernel_rfl) a_w158q 0 p_w158q (fun _ _ => by kernel_rfl) fun _ => rfl
theorem ok_w159q : EnvOK Tryz.prog G_w159q := okc ok_w158q Tryz.func312 (by kernel_rfl) a_w159q 0 p_w159q (fun _ _ => by kernel_rfl) fun _ => rfl
theorem ok_w160q : EnvOK Tryz.prog G_w160q := okc ok_w159q Tryz.func196 (by kernel_rfl) a_w160q 0 p_w160q (fun _ _ => by kernel_rfl) fun _ => rfl
theorem ok_w161q : EnvOK Tryz.prog G_w161q := okc ok_w160q Tryz.func183 (by kernel_rfl) a_w161q 0 p_w161q (fun _ _ => by kernel_rfl) fun _ => rfl
theorem ok_w162q : EnvOK Tryz.prog G_w162q := okc ok_w161q Tryz.func184 (by kernel_rfl) a_w162q 0 p_w162q (fun _ _ => by kernel_rfl) fun _ => rfl
theorem ok_w163q : EnvOK Tryz.prog G_w163q := okc ok_w162q Tryz.func185 (by kernel_rfl) a_w163q 0 p_w163q (fun _ _ => by kernel_rfl) fun _ => rfl
theorem ok_w164q : EnvOK Tryz.prog G_w164q := okc ok_w163q Tryz.func186 (by kernel_rfl) a_w164q 0 p_w164q (fun _ _ => by kernel_rfl) fun _ => rfl
theorem ok_w165q : EnvOK Tryz.prog G_w165q := okc ok_w164q Tryz.func91 (by kernel_rfl) a_w165q 0 p_w165q (fun _ _ => by kernel_rfl) fun _ => rfl
theorem ok_w166q : EnvOK Tryz.prog G_w166q := okc ok_w165q Tryz.func21 (by kernel_rfl) a_w166q 2 p_w166q (fun _ _ => by kernel_rfl) fun _ => rfl
theorem ok_w167q : EnvOK Tryz.prog G_w167q := okc ok_w166q Tryz.func333 (by kernel_rfl) a_w167q 0 p_w167q (fun _ _ => by kernel_rfl) fun _ => rfl
theorem ok_w168q : EnvOK Tryz.prog G_w168q := okc ok_w167q Tryz.func215 (by kernel_rfl) a_w168q 0 p_w168q (fun _ _ => by kernel_rfl) fun _ => rfl
theorem ok_w169q : EnvOK Tryz.prog G_w169q := okc ok_w168q Tryz.func389 (by kernel_rfl) a_w169q 0 p_w169q (fun _ _ => by kernel_rfl) fun _ => rfl
theorem ok_w170q : EnvOK Tryz.prog G_w170q := okc ok_w169q Tryz.func393 (by kernel_rfl) a_w170q 0 p_w170q (fun _ _ => by kernel_rfl) fun _ => rfl
theorem ok_w171q : EnvOK Tryz.prog G_w171q := okc ok_w170q Tryz.func462 (by kernel_rfl) a_w171q 0 p_w171q (fun _ _ => by kernel_rfl) fun _ => rfl
theorem ok_w172q : EnvOK Tryz.prog G_w172q := okc ok_w171q Tryz.func433 (by kernel_rfl) a_w172q 0 p_w172q (fun _ _ => by kernel_rfl) fun _ => rfl
theorem ok_w173q : EnvOK Tryz.prog G_w173q := okc ok_w172q Tryz.func390 (by kernel_rfl) a_w173q 0 p_w173q (fun _ _ => by kernel_rfl) fun _ => rfl
theorem ok_w174q : EnvOK Tryz.prog G_w174q := okc ok_w173q Tryz.func391 (by kernel_rfl) a_w174q 0 p_w174q (fun _ _ => by kernel_rfl) fun _ => rfl
theorem ok_w175q : EnvOK Tryz.prog G_w175q := okc ok_w174q Tryz.func434 (by kernel_rfl) a_w175q 0 p_w175q (fun _ _ => by kernel_rfl) fun _ => rfl
theorem ok_w176q : EnvOK Tryz.prog G_w176q := okc ok_w175q Tryz.func435 (by kernel_rfl) a_w176q 0 p_w176q (fun _ _ => by kernel_rfl) fun _ => rfl
theorem ok_w177q : EnvOK Tryz.prog G_w177q := okc ok_w176q Tryz.func231 (by kernel_rfl) a_w177q 0 p_w177q (fun _ _ => by kernel_rfl) fun _ => rfl
theorem ok_w178q : EnvOK Tryz.prog G_w178q := okc ok_w177q Tryz.func392 (by kernel_rfl) a_w178q 0 p_w178q (fun _ _ => by kernel_rfl) fun _ => rfl
theorem ok_w179q : EnvOK Tryz.prog G_w179q := okc ok_w178q Tryz.func394 (by kernel_rfl) a_w179q 0 p_w179q (fun _ _ => by kernel_rfl) fun _ => rfl
theorem ok_w180q : EnvOK Tryz.prog G_w180q := okc ok_w179q Tryz.func311 (by kernel_rfl) a_w180q 0 p_w180q (fun _ _ => by kernel_rfl) fun _ => rfl
theorem ok_w181q : EnvOK Tryz.prog G_w181q := okc ok_w180q Tryz.func24 (by kernel_rfl) a_w181q 4 p_w181q (fun _ _ => by kernel_rfl) fun _ => rfl
theorem ok_w182q : EnvOK Tryz.prog G_w182q := okc ok_w181q Tryz.func382 (by kernel_rfl) a_w182q 0 p_w182q (fun _ _ => by kernel_rfl) fun _ => rfl
theorem ok_w183q : EnvOK Tryz.prog G_w183q := okc ok_w182q Tryz.func302 (by kernel_rfl) a_w183q 0 p_w183q (fun _ _ => by kernel_rfl) fun _ => rfl
theorem ok_w184q : EnvOK Tryz.prog G_w184q := okc ok_w183q Tryz.func187 (by kernel_rfl) a_w184q 0 p_w184q (fun _ _ => by kernel_rfl) fun _ => rfl
theorem ok_w185q : EnvOK Tryz.prog G_w185q := okc ok_w184q Tryz.func92 (by kernel_rfl) a_w185q 0 p_w185q (fun _ _ => by kernel_rfl) fun _ => rfl
theorem ok_w186q : EnvOK Tryz.prog G_w186q := okc ok_w185q Tryz.func383 (by kernel_rfl) a_w186q 0 p_w186q (fun _ _ => by kernel_rfl) fun _ => rfl
theorem ok_w187q : EnvOK Tryz.prog G_w187q := okc ok_w186q Tryz.func303 (by kernel_rfl) a_w187q 0 p_w187q (fun _ _ => by kernel_rfl) fun _ => rfl
theorem ok_w188q : EnvOK Tryz.prog G_w188q := okc ok_w187q Tryz.func384 (by kernel_rfl) a_w188q 0 p_w188q (fun _ _ => by kernel_rfl) fun _ => rfl
theorem ok_w189q : EnvOK Tryz.prog G_w189q := okc ok_w188q Tryz.func304 (by kernel_rfl) a_w189q 0 p_w189q (fun _ _ => by kernel_rfl) fun _ => rfl
theorem ok_w190q : EnvOK Tryz.prog G_w190q := okc ok_w189q Tryz.func305 (by kernel_rfl) a_w190q 0 p_w190q (fun _ _ => by kernel_rfl) fun _ => rfl
theorem ok_w191q : EnvOK Tryz.prog G_w191q := okc ok_w190q Tryz.func188 (by kernel_rfl) a_w191q 0 p_w191q (fun _ _ => by kernel_rfl) fun _ => rfl
theorem ok_w192q : EnvOK Tryz.prog G_w192q := okc ok_w191q Tryz.func93 (by kernel_rfl) a_w192q 0 p_w192q (fun _ _ => by kernel_rfl) fun _ => rfl
theorem ok_w193q : EnvOK Tryz.prog G_w193q := okc ok_w192q Tryz.func309 (by kernel_rfl) a_w193q 0 p_w193q (fun _ _ => by kernel_rfl) fun _ => rfl
theorem ok_w194q : EnvOK Tryz.prog G_w194q := okc ok_w193q Tryz.func432 (by kernel_rfl) a_w194q 0 p_w194q (fun _ _ => by kernel_rfl) fun _ => rfl
theorem ok_w195q : EnvOK Tryz.prog G_w195q := okc ok_w194q Tryz.func385 (by kernel_rfl) a_w195q 0 p_w195q (fun _ _ => by kernel_rfl) fun _ => rfl
theorem ok_w196q : EnvOK Tryz.prog G_w196q := okc ok_w195q Tryz.func306 (by kernel_rfl) a_w196q 0 p_w196q (fun _ _ => by kernel_rfl) fun _ => rfl
theorem ok_w197q : EnvOK Tryz.prog G_w197q := okc ok_w196q Tryz.func189 (by kernel_rfl) a_w197q 0 p_w197q (fun _ _ => by kernel_rfl) fun _ => rfl
theorem ok_w198q : EnvOK Tryz.prog G_w198q := okc ok_w197q Tryz.func94 (by kernel_rfl) a_w198q 0 p_w198q (fun _ _ => by kernel_rfl) fun _ => rfl
theorem ok_w199q : EnvOK Tryz.prog G_w199q := okc ok_w198q Tryz.func386 (by kernel_rfl) a_w199q 0 p_w199q (fun _ _ => by kernel_rfl) fun _ => rfl
theorem ok_w200q : EnvOK Tryz.prog G_w200q := okc ok_w199q Tryz.func307 (by kernel_rfl) a_w200q 0 p_w200q (fun _ _ => by kernel_rfl) fun _ => rfl
theorem ok_w201q : EnvOK Tryz.prog G_w201q := okc ok_w200q Tryz.func387 (by kernel_rfl) a_w201q 0 p_w201q (fun _ _ => by kernel_rfl) fun _ => rfl
theorem ok_w202q : EnvOK Tryz.prog G_w202q := okc ok_w201q Tryz.func308 (by kernel_rfl) a_w202q 0 p_w202q (fun _ _ => by kernel_rfl) fun _ => rfl
theorem ok_w203q : EnvOK Tryz.prog G_w203q := okc ok_w202q Tryz.func190 (by kernel_rfl) a_w203q 0 p_w203q (fun _ _ => by kernel_rfl) fun _ => rfl
theorem ok_w204q : EnvOK Tryz.prog G_w204q := okc ok_w203q Tryz.func95 (by kernel_rfl) a_w204q 0 p_w204q (fun _ _ => by kernel_rfl) fun _ => rfl
theorem ok_w205q : EnvOK Tryz.prog G_w205q := okc ok_w204q Tryz.func191 (by kernel_rfl) a_w205q 0 p_w205q (fun _ _ => by kernel_rfl) fun _ => rfl
theorem ok_w206q : EnvOK Tryz.prog G_w206q := okc ok_w205q Tryz.func96 (by kernel_rfl) a_w206q 0 p_w206q (fun _ _ => by kernel_rfl) fun _ => rfl
theorem ok_w207q : EnvOK Tryz.prog G_w207q := okc ok_w206q Tryz.func22 (by kernel_rfl) a_w207q 0 p_w207q (fun _ _ => by kernel_rfl) fun _ => rfl
theorem ok_w208q : EnvOK Tryz.prog G_w208q := okc ok_w207q Tryz.func25 (by kernel_rfl) a_w208q 0 p_w208q (fun _ _ => by kernel_rfl) fun _ => rfl
theorem ok_w209q : EnvOK Tryz.prog G_w209q := okc ok_w208q Tryz.func197 (by kernel_rfl) a_w209q 0 p_w209q (fun _ _ => by kernel_rfl) fun _ => rfl
theorem ok_w210q : EnvOK Tryz.prog G_w210q := okc ok_w209q Tryz.func103 (by kernel_rfl) a_w210q 0 p_w210q (fun _ _ => by kernel_rfl) fun _ => rfl
theorem ok_w211q : EnvOK Tryz.prog G_w211q := okc ok_w210q Tryz.func198 (by kernel_rfl) a_w211q 0 p_w211q (fun _ _ => by kernel_rfl) fun _ => rfl
theorem ok_w212q : EnvOK Tryz.prog G_w212q := okc ok_w211q Tryz.func199 (by kernel_rfl) a_w212q 0 p_w212q (fun _ _ => by kernel_rfl) fun _ => rfl
theorem ok_w213q : EnvOK Tryz.prog G_w213q := okc ok_w212q Tryz.func200 (by kernel_rfl) a_w213q 0 p_w213q (fun _ _ => by kernel_rfl) fun _ => rfl
theorem ok_w214q : EnvOK Tryz.prog G_w214q := okc ok_w213q Tryz.func104 (by kernel_rfl) a_w214q 0 p_w214q (fun _ _ => by kernel_rfl) fun _ => rfl
theorem ok_w215q : EnvOK Tryz.prog G_w215q := okc ok_w214q Tryz.func313 (by kernel_rfl) a_w215q 0 p_w215q (fun _ _ => by kernel_rfl) fun _ => rfl
theorem ok_w216q : EnvOK Tryz.prog G_w216q := okc ok_w215q Tryz.func201 (by kernel_rfl) a_w216q 0 p_w216q (fun _ _ => by kernel_rfl) fun _ => rfl
theorem ok_w217q : EnvOK Tryz.prog G_w217q := okc ok_w216q Tryz.func105 (by kernel_rfl) a_w217q 0 p_w217q (fun _ _ => by kernel_rfl) fun _ => rfl
theorem ok_w218q : EnvOK Tryz.prog G_w218q := okc ok_w217q Tryz.func202 (by kernel_rfl) a_w218q 0 p_w218q (fun _ _ => by kernel_rfl) fun _ => rfl
theorem ok_w219q : EnvOK Tryz.prog G_w219q := okc ok_w218q Tryz.func203 (by kernel_rfl) a_w219q 0 p_w219q (fun _ _ => by kernel_rfl) fun _ => rfl
theorem ok_w220q : EnvOK Tryz.prog G_w220q := okc ok_w219q Tryz.func106 (by kernel_rfl) a_w220q 0 p_w220q (fun _ _ => by kernel_rfl) fun _ => rfl
theorem ok_w221q : EnvOK Tryz.prog G_w221q := okc ok_w220q Tryz.func107 (by kernel_rfl) a_w221q 0 p_w221q (fun _ _ => by kernel_rfl) fun _ => rfl
theorem ok_w222q : EnvOK Tryz.prog G_w222q := okc ok_w221q Tryz.func314 (by kernel_rfl) a_w222q 0 p_w222q (fun _ _ => by kernel_rfl) fun _ => rfl
theorem ok_w223q : EnvOK Tryz.prog G_w223q := okc ok_w222q Tryz.func204 (by kernel_rfl) a_w223q 0 p_w223q (fun _ _ => by kernel_rfl) fun _ => rfl
theorem ok_w224q : EnvOK Tryz.prog G_w224q := okc ok_w223q Tryz.func315 (by kernel_rfl) a_w224q 0 p_w224q (fun _ _ => by kernel_rfl) fun _ => rfl
theorem ok_w225q : EnvOK Tryz.prog G_w225q := okc ok_w224q Tryz.func316 (by kernel_rfl) a_w225q 0 p_w225q (fun _ _ => by kernel_rfl) fun _ => rfl
theorem ok_w226q : EnvOK Tryz.prog G_w226q := okc ok_w225q Tryz.func317 (by kernel_rfl) a_w226q 0 p_w226q (fun _ _ => by kernel_rfl) fun _ => rfl
theorem ok_w227q : EnvOK Tryz.prog G_w227q := okc ok_w226q Tryz.func205 (by kernel_rfl) a_w227q 0 p_w227q (fun _ _ => by kernel_rfl) fun _ => rfl
theorem ok_w228q : EnvOK Tryz.prog G_w228q := okc ok_w227q Tryz.func395 (by kernel_rfl) a_w228q 0 p_w228q (fun _ _ => by kernel_rfl) fun _ => rfl
theorem ok_w229q : EnvOK Tryz.prog G_w229q := okc ok_w228q Tryz.func318 (by kernel_rfl) a_w229q 0 p_w229q (fun _ _ => by kernel_rfl) fun _ => rfl
theorem ok_w230q : EnvOK Tryz.prog G_w230q := okc ok_w229q Tryz.func206 (by kernel_rfl) a_w230q 0 p_w230q (fun _ _ => by kernel_rfl) fun _ => rfl
theorem ok_w231q : EnvOK Tryz.prog G_w231q := okc ok_w230q Tryz.func319 (by kernel_rfl) a_w231q 0 p_w231q (fun _ _ => by kernel_rfl) fun _ => rfl
theorem ok_w232q : EnvOK Tryz.prog G_w232q := okc ok_w231q Tryz.func320 (by kernel_rfl) a_w232q 0 p_w232q (fun _ _ => by kernel_rfl) fun _ => rfl
theorem ok_w233q : EnvOK Tryz.prog G_w233q := okc ok_w232q Tryz.func207 (by kernel_rfl) a_w233q 0 p_w233q (fun _ _ => by kernel_rfl) fun _ => rfl
theorem ok_w234q : EnvOK Tryz.prog G_w234q := okc ok_w233q Tryz.func208 (by kernel_rfl) a_w234q 0 p_w234q (fun _ _ => by kernel_rfl) fun _ => rfl
theorem ok_w235q : EnvOK Tryz.prog G_w235q := okc ok_w234q Tryz.func108 (by kernel_rfl) a_w235q 0 p_w235q (fun _ _ => by kernel_rfl) fun _ => rfl
theorem ok_w236q : EnvOK Tryz.prog G_w236q := okc ok_w235q Tryz.func28 (by kernel_rfl) a_w236q 0 p_w236q (fun _ _ => by kernel_rfl) fun _ => rfl
theorem ok_w237q : EnvOK Tryz.prog G_w237q := okc ok_w236q Tryz.func6 (by kernel_rfl) a_w237q 2 p_w237q (fun _ _ => by kernel_rfl) fun _ => rfl
end Go.RvP
