/- Each function of the program is as its plain function says, for FnExactClusterFault. No condition. -/
import Derived.Test.YtjamkpjjlpmofaaGreatRvP5
import Derived.Test.YtjamkpjjlpmofaaGreatProg
import Derived.KernelRfl
import Derived.RangeFuncBox
import Derived.RangeFuncLeaves
import Derived.Shelf.Abstract
import Derived.WalkKit
import Derived.OwnWalkIn
import Derived.TacticsInMore
import Derived.LoopNIn
import Derived.LoopIn
namespace Go.RvP
open Go Go.Rv Go.Proofs Go.Shelf Go.RowKit Go.Lib Go.Sort
set_option maxRecDepth 100000
theorem hm : Tryz.prog.follows .mixedOrders = true := by kernel_rfl
theorem hT : TabOK Tryz.prog T := tabOK_of (by kernel_rfl)
noncomputable def BB : Bodies := [(85,Tryz.f85),(87,Tryz.f87),(89,Tryz.f89),(90,Tryz.f90),(173,Tryz.f173),(175,Tryz.f175),(179,Tryz.f179),(180,Tryz.f180),(224,Tryz.f224),(225,Tryz.f225),(255,Tryz.f255),(276,Tryz.f276),(280,Tryz.f280),(288,Tryz.f288),(289,Tryz.f289),(290,Tryz.f290),(294,Tryz.f294),(337,Tryz.f337),(371,Tryz.f371),(372,Tryz.f372),(373,Tryz.f373),(378,Tryz.f378),(380,Tryz.f380),(381,Tryz.f381),(424,Tryz.f424),(428,Tryz.f428),(429,Tryz.f429),(431,Tryz.f431),(458,Tryz.f458),(470,Tryz.f470)]
theorem hBB : BodyOK Tryz.prog BB := (bodyOK_cons Tryz.func85 (by kernel_rfl) (bodyOK_cons Tryz.func87 (by kernel_rfl) (bodyOK_cons Tryz.func89 (by kernel_rfl) (bodyOK_cons Tryz.func90 (by kernel_rfl) (bodyOK_cons Tryz.func173 (by kernel_rfl) (bodyOK_cons Tryz.func175 (by kernel_rfl) (bodyOK_cons Tryz.func179 (by kernel_rfl) (bodyOK_cons Tryz.func180 (by kernel_rfl) (bodyOK_cons Tryz.func224 (by kernel_rfl) (bodyOK_cons Tryz.func225 (by kernel_rfl) (bodyOK_cons Tryz.func255 (by kernel_rfl) (bodyOK_cons Tryz.func276 (by kernel_rfl) (bodyOK_cons Tryz.func280 (by kernel_rfl) (bodyOK_cons Tryz.func288 (by kernel_rfl) (bodyOK_cons Tryz.func289 (by kernel_rfl) (bodyOK_cons Tryz.func290 (by kernel_rfl) (bodyOK_cons Tryz.func294 (by kernel_rfl) (bodyOK_cons Tryz.func337 (by kernel_rfl) (bodyOK_cons Tryz.func371 (by kernel_rfl) (bodyOK_cons Tryz.func372 (by kernel_rfl) (bodyOK_cons Tryz.func373 (by kernel_rfl) (bodyOK_cons Tryz.func378 (by kernel_rfl) (bodyOK_cons Tryz.func380 (by kernel_rfl) (bodyOK_cons Tryz.func381 (by kernel_rfl) (bodyOK_cons Tryz.func424 (by kernel_rfl) (bodyOK_cons Tryz.func428 (by kernel_rfl) (bodyOK_cons Tryz.func429 (by kernel_rfl) (bodyOK_cons Tryz.func431 (by kernel_rfl) (bodyOK_cons Tryz.func458 (by kernel_rfl) (bodyOK_cons Tryz.func470 (by kernel_rfl) bodyOK_nil))))))))))))))))))))))))))))))
theorem e_w0q (n : Nat) (x) : afun [] T BB 0 n Tryz.f256 a_w0q S_w0q.ps S_w0q.rs x = p_w0q n x := by kernel_rfl
theorem ok_w0q : EnvOK Tryz.prog G_w0q := envOK_cons hm hT envOK_nil Tryz.func256 (by kernel_rfl) hBB fun x r hr => ⟨FU,(e_w0q FU x).trans hr⟩
theorem e_w1q (n : Nat) (x) : afun G_w0q T BB 0 n Tryz.f151 a_w1q S_w1q.ps S_w1q.rs x = p_w1q n x := by kernel_rfl
theorem ok_w1q : EnvOK Tryz.prog G_w1q := envOK_cons hm hT ok_w0q Tryz.func151 (by kernel_rfl) hBB fun x r hr => ⟨FU,(e_w1q FU x).trans hr⟩
theorem e_w2q (n : Nat) (x) : afun G_w1q T BB 0 n Tryz.f65 a_w2q S_w2q.ps S_w2q.rs x = p_w2q n x := by kernel_rfl
theorem ok_w2q : EnvOK Tryz.prog G_w2q := envOK_cons hm hT ok_w1q Tryz.func65 (by kernel_rfl) hBB fun x r hr => ⟨FU,(e_w2q FU x).trans hr⟩
theorem e_w3q (n : Nat) (x) : afun G_w2q T BB 0 n Tryz.f257 a_w3q S_w3q.ps S_w3q.rs x = p_w3q n x := by kernel_rfl
theorem ok_w3q : EnvOK Tryz.prog G_w3q := envOK_cons hm hT ok_w2q Tryz.func257 (by kernel_rfl) hBB fun x r hr => ⟨FU,(e_w3q FU x).trans hr⟩
theorem e_w4q (n : Nat) (x) : afun G_w3q T BB 0 n Tryz.f258 a_w4q S_w4q.ps S_w4q.rs x = p_w4q n x := by kernel_rfl
theorem ok_w4q : EnvOK Tryz.prog G_w4q := envOK_cons hm hT ok_w3q Tryz.func258 (by kernel_rfl) hBB fun x r hr => ⟨FU,(e_w4q FU x).trans hr⟩
theorem e_w5q (n : Nat) (x) : afun G_w4q T BB 0 n Tryz.f259 a_w5q S_w5q.ps S_w5q.rs x = p_w5q n x := by kernel_rfl
theorem ok_w5q : EnvOK Tryz.prog G_w5q := envOK_cons hm hT ok_w4q Tryz.func259 (by kernel_rfl) hBB fun x r hr => ⟨FU,(e_w5q FU x).trans hr⟩
theorem e_w6q (n : Nat) (x) : afun G_w5q T BB 0 n Tryz.f152 a_w6q S_w6q.ps S_w6q.rs x = p_w6q n x := by kernel_rfl
theorem ok_w6q : EnvOK Tryz.prog G_w6q := envOK_cons hm hT ok_w5q Tryz.func152 (by kernel_rfl) hBB fun x r hr => ⟨FU,(e_w6q FU x).trans hr⟩
theorem e_w7q (n : Nat) (x) : afun G_w6q T BB 0 n Tryz.f66 a_w7q S_w7q.ps S_w7q.rs x = p_w7q n x := by kernel_rfl
theorem ok_w7q : EnvOK Tryz.prog G_w7q := envOK_cons hm hT ok_w6q Tryz.func66 (by kernel_rfl) hBB fun x r hr => ⟨FU,(e_w7q FU x).trans hr⟩
theorem e_w8q (n : Nat) (x) : afun G_w7q T BB 0 n Tryz.f419 a_w8q S_w8q.ps S_w8q.rs x = p_w8q n x := by kernel_rfl
theorem ok_w8q : EnvOK Tryz.prog G_w8q := envOK_cons hm hT ok_w7q Tryz.func419 (by kernel_rfl) hBB fun x r hr => ⟨FU,(e_w8q FU x).trans hr⟩
theorem e_w9q (n : Nat) (x) : afun G_w8q T BB 0 n Tryz.f350 a_w9q S_w9q.ps S_w9q.rs x = p_w9q n x := by kernel_rfl
theorem ok_w9q : EnvOK Tryz.prog G_w9q := envOK_cons hm hT ok_w8q Tryz.func350 (by kernel_rfl) hBB fun x r hr => ⟨FU,(e_w9q FU x).trans hr⟩
theorem e_w10q (n : Nat) (x) : afun G_w9q T BB 0 n Tryz.f260 a_w10q S_w10q.ps S_w10q.rs x = p_w10q n x := by kernel_rfl
theorem ok_w10q : EnvOK Tryz.prog G_w10q := envOK_cons hm hT ok_w9q Tryz.func260 (by kernel_rfl) hBB fun x r hr => ⟨FU,(e_w10q FU x).trans hr⟩
theorem e_w11q (n : Nat) (x) : afun G_w10q T BB 0 n Tryz.f153 a_w11q S_w11q.ps S_w11q.rs x = p_w11q n x := by kernel_rfl
theorem ok_w11q : EnvOK Tryz.prog G_w11q := envOK_cons hm hT ok_w10q Tryz.func153 (by kernel_rfl) hBB fun x r hr => ⟨FU,(e_w11q FU x).trans hr⟩
theorem e_w12q (n : Nat) (x) : afun G_w11q T BB 0 n Tryz.f67 a_w12q S_w12q.ps S_w12q.rs x = p_w12q n x := by kernel_rfl
theorem ok_w12q : EnvOK Tryz.prog G_w12q := envOK_cons hm hT ok_w11q Tryz.func67 (by kernel_rfl) hBB fun x r hr => ⟨FU,(e_w12q FU x).trans hr⟩
theorem e_w13q (n : Nat) (x) : afun G_w12q T BB 0 n Tryz.f351 a_w13q S_w13q.ps S_w13q.rs x = p_w13q n x := by kernel_rfl
theorem ok_w13q : EnvOK Tryz.prog G_w13q := envOK_cons hm hT ok_w12q Tryz.func351 (by kernel_rfl) hBB fun x r hr => ⟨FU,(e_w13q FU x).trans hr⟩
theorem e_w14q (n : Nat) (x) : afun G_w13q T BB 0 n Tryz.f261 a_w14q S_w14q.ps S_w14q.rs x = p_w14q n x := by kernel_rfl
theorem ok_w14q : EnvOK Tryz.prog G_w14q := envOK_cons hm hT ok_w13q Tryz.func261 (by kernel_rfl) hBB fun x r hr => ⟨FU,(e_w14q FU x).trans hr⟩
theorem e_w15q (n : Nat) (x) : afun G_w14q T BB 0 n Tryz.f262 a_w15q S_w15q.ps S_w15q.rs x = p_w15q n x := by kernel_rfl
theorem ok_w15q : EnvOK Tryz.prog G_w15q := envOK_cons hm hT ok_w14q Tryz.func262 (by kernel_rfl) hBB fun x r hr => ⟨FU,(e_w15q FU x).trans hr⟩
theorem e_w16q (n : Nat) (x) : afun G_w15q T BB 0 n Tryz.f154 a_w16q S_w16q.ps S_w16q.rs x = p_w16q n x := by kernel_rfl
theorem ok_w16q : EnvOK Tryz.prog G_w16q := envOK_cons hm hT ok_w15q Tryz.func154 (by kernel_rfl) hBB fun x r hr => ⟨FU,(e_w16q FU x).trans hr⟩
theorem e_w17q (n : Nat) (x) : afun G_w16q T BB 0 n Tryz.f68 a_w17q S_w17q.ps S_w17q.rs x = p_w17q n x := by kernel_rfl
theorem ok_w17q : EnvOK Tryz.prog G_w17q := envOK_cons hm hT ok_w16q Tryz.func68 (by kernel_rfl) hBB fun x r hr => ⟨FU,(e_w17q FU x).trans hr⟩
theorem e_w18q (n : Nat) (x) : afun G_w17q T BB 0 n Tryz.f69 a_w18q S_w18q.ps S_w18q.rs x = p_w18q n x := by kernel_rfl
theorem ok_w18q : EnvOK Tryz.prog G_w18q := envOK_cons hm hT ok_w17q Tryz.func69 (by kernel_rfl) hBB fun x r hr => ⟨FU,(e_w18q FU x).trans hr⟩
theorem e_w19q (n : Nat) (x) : afun G_w18q T BB 0 n Tryz.f18 a_w19q S_w19q.ps S_w19q.rs x = p_w19q n x := by kernel_rfl
theorem ok_w19q : EnvOK Tryz.prog G_w19q := envOK_cons hm hT ok_w18q Tryz.func18 (by kernel_rfl) hBB fun x r hr => ⟨FU,(e_w19q FU x).trans hr⟩
theorem e_w20q (n : Nat) (x) : afun G_w19q T BB 0 n Tryz.f360 a_w20q S_w20q.ps S_w20q.rs x = p_w20q n x := by kernel_rfl
theorem ok_w20q : EnvOK Tryz.prog G_w20q := envOK_cons hm hT ok_w19q Tryz.func360 (by kernel_rfl) hBB fun x r hr => ⟨FU,(e_w20q FU x).trans hr⟩
theorem e_w21q (n : Nat) (x) : afun G_w20q T BB 0 n Tryz.f268 a_w21q S_w21q.ps S_w21q.rs x = p_w21q n x := by kernel_rfl
theorem ok_w21q : EnvOK Tryz.prog G_w21q := envOK_cons hm hT ok_w20q Tryz.func268 (by kernel_rfl) hBB fun x r hr => ⟨FU,(e_w21q FU x).trans hr⟩
theorem e_w22q (n : Nat) (x) : afun G_w21q T BB 0 n Tryz.f166 a_w22q S_w22q.ps S_w22q.rs x = p_w22q n x := by kernel_rfl
theorem ok_w22q : EnvOK Tryz.prog G_w22q := envOK_cons hm hT ok_w21q Tryz.func166 (by kernel_rfl) hBB fun x r hr => ⟨FU,(e_w22q FU x).trans hr⟩
theorem e_w23q (n : Nat) (x) : afun G_w22q T BB 0 n Tryz.f75 a_w23q S_w23q.ps S_w23q.rs x = p_w23q n x := by kernel_rfl
theorem ok_w23q : EnvOK Tryz.prog G_w23q := envOK_cons hm hT ok_w22q Tryz.func75 (by kernel_rfl) hBB fun x r hr => ⟨FU,(e_w23q FU x).trans hr⟩
theorem e_w24q (n : Nat) (x) : afun G_w23q T BB 0 n Tryz.f361 a_w24q S_w24q.ps S_w24q.rs x = p_w24q n x := by kernel_rfl
theorem ok_w24q : EnvOK Tryz.prog G_w24q := envOK_cons hm hT ok_w23q Tryz.func361 (by kernel_rfl) hBB fun x r hr => ⟨FU,(e_w24q FU x).trans hr⟩
theorem e_w25q (n : Nat) (x) : afun G_w24q T BB 0 n Tryz.f269 a_w25q S_w25q.ps S_w25q.rs x = p_w25q n x := by kernel_rfl
theorem ok_w25q : EnvOK Tryz.prog G_w25q := envOK_cons hm hT ok_w24q Tryz.func269 (by kernel_rfl) hBB fun x r hr => ⟨FU,(e_w25q FU x).trans hr⟩
theorem e_w26q (n : Nat) (x) : afun G_w25q T BB 0 n Tryz.f362 a_w26q S_w26q.ps S_w26q.rs x = p_w26q n x := by kernel_rfl
theorem ok_w26q : EnvOK Tryz.prog G_w26q := envOK_cons hm hT ok_w25q Tryz.func362 (by kernel_rfl) hBB fun x r hr => ⟨FU,(e_w26q FU x).trans hr⟩
theorem e_w27q (n : Nat) (x) : afun G_w26q T BB 0 n Tryz.f270 a_w27q S_w27q.ps S_w27q.rs x = p_w27q n x := by kernel_rfl
theorem ok_w27q : EnvOK Tryz.prog G_w27q := envOK_cons hm hT ok_w26q Tryz.func270 (by kernel_rfl) hBB fun x r hr => ⟨FU,(e_w27q FU x).trans hr⟩
theorem e_w28q (n : Nat) (x) : afun G_w27q T BB 0 n Tryz.f271 a_w28q S_w28q.ps S_w28q.rs x = p_w28q n x := by kernel_rfl
theorem ok_w28q : EnvOK Tryz.prog G_w28q := envOK_cons hm hT ok_w27q Tryz.func271 (by kernel_rfl) hBB fun x r hr => ⟨FU,(e_w28q FU x).trans hr⟩
theorem e_w29q (n : Nat) (x) : afun G_w28q T BB 0 n Tryz.f167 a_w29q S_w29q.ps S_w29q.rs x = p_w29q n x := by kernel_rfl
theorem ok_w29q : EnvOK Tryz.prog G_w29q := envOK_cons hm hT ok_w28q Tryz.func167 (by kernel_rfl) hBB fun x r hr => ⟨FU,(e_w29q FU x).trans hr⟩
theorem e_w30q (n : Nat) (x) : afun G_w29q T BB 0 n Tryz.f76 a_w30q S_w30q.ps S_w30q.rs x = p_w30q n x := by kernel_rfl
theorem ok_w30q : EnvOK Tryz.prog G_w30q := envOK_cons hm hT ok_w29q Tryz.func76 (by kernel_rfl) hBB fun x r hr => ⟨FU,(e_w30q FU x).trans hr⟩
theorem e_w31q (n : Nat) (x) : afun G_w30q T BB 0 n Tryz.f275 a_w31q S_w31q.ps S_w31q.rs x = p_w31q n x := by kernel_rfl
theorem ok_w31q : EnvOK Tryz.prog G_w31q := envOK_cons hm hT ok_w30q Tryz.func275 (by kernel_rfl) hBB fun x r hr => ⟨FU,(e_w31q FU x).trans hr⟩
theorem e_w32q (n : Nat) (x) : afun G_w31q T BB 0 n Tryz.f422 a_w32q S_w32q.ps S_w32q.rs x = p_w32q n x := by kernel_rfl
theorem ok_w32q : EnvOK Tryz.prog G_w32q := envOK_cons hm hT ok_w31q Tryz.func422 (by kernel_rfl) hBB fun x r hr => ⟨FU,(e_w32q FU x).trans hr⟩
theorem e_w33q (n : Nat) (x) : afun G_w32q T BB 0 n Tryz.f363 a_w33q S_w33q.ps S_w33q.rs x = p_w33q n x := by kernel_rfl
theorem ok_w33q : EnvOK Tryz.prog G_w33q := envOK_cons hm hT ok_w32q Tryz.func363 (by kernel_rfl) hBB fun x r hr => ⟨FU,(e_w33q FU x).trans hr⟩
theorem e_w34q (n : Nat) (x) : afun G_w33q T BB 0 n Tryz.f272 a_w34q S_w34q.ps S_w34q.rs x = p_w34q n x := by kernel_rfl
theorem ok_w34q : EnvOK Tryz.prog G_w34q := envOK_cons hm hT ok_w33q Tryz.func272 (by kernel_rfl) hBB fun x r hr => ⟨FU,(e_w34q FU x).trans hr⟩
theorem e_w35q (n : Nat) (x) : afun G_w34q T BB 0 n Tryz.f168 a_w35q S_w35q.ps S_w35q.rs x = p_w35q n x := by kernel_rfl
theorem ok_w35q : EnvOK Tryz.prog G_w35q := envOK_cons hm hT ok_w34q Tryz.func168 (by kernel_rfl) hBB fun x r hr => ⟨FU,(e_w35q FU x).trans hr⟩
theorem e_w36q (n : Nat) (x) : afun G_w35q T BB 0 n Tryz.f77 a_w36q S_w36q.ps S_w36q.rs x = p_w36q n x := by kernel_rfl
theorem ok_w36q : EnvOK Tryz.prog G_w36q := envOK_cons hm hT ok_w35q Tryz.func77 (by kernel_rfl) hBB fun x r hr => ⟨FU,(e_w36q FU x).trans hr⟩
theorem e_w37q (n : Nat) (x) : afun G_w36q T BB 0 n Tryz.f364 a_w37q S_w37q.ps S_w37q.rs x = p_w37q n x := by kernel_rfl
theorem ok_w37q : EnvOK Tryz.prog G_w37q := envOK_cons hm hT ok_w36q Tryz.func364 (by kernel_rfl) hBB fun x r hr => ⟨FU,(e_w37q FU x).trans hr⟩
theorem e_w38q (n : Nat) (x) : afun G_w37q T BB 0 n Tryz.f273 a_w38q S_w38q.ps S_w38q.rs x = p_w38q n x := by kernel_rfl
theorem ok_w38q : EnvOK Tryz.prog G_w38q := envOK_cons hm hT ok_w37q Tryz.func273 (by kernel_rfl) hBB fun x r hr => ⟨FU,(e_w38q FU x).trans hr⟩
theorem e_w39q (n : Nat) (x) : afun G_w38q T BB 0 n Tryz.f365 a_w39q S_w39q.ps S_w39q.rs x = p_w39q n x := by kernel_rfl
theorem ok_w39q : EnvOK Tryz.prog G_w39q := envOK_cons hm hT ok_w38q Tryz.func365 (by kernel_rfl) hBB fun x r hr => ⟨FU,(e_w39q FU x).trans hr⟩
theorem e_w40q (n : Nat) (x) : afun G_w39q T BB 0 n Tryz.f274 a_w40q S_w40q.ps S_w40q.rs x = p_w40q n x := by kernel_rfl
theorem ok_w40q : EnvOK Tryz.prog G_w40q := envOK_cons hm hT ok_w39q Tryz.func274 (by kernel_rfl) hBB fun x r hr => ⟨FU,(e_w40q FU x).trans hr⟩
theorem e_w41q (n : Nat) (x) : afun G_w40q T BB 0 n Tryz.f169 a_w41q S_w41q.ps S_w41q.rs x = p_w41q n x := by kernel_rfl
theorem ok_w41q : EnvOK Tryz.prog G_w41q := envOK_cons hm hT ok_w40q Tryz.func169 (by kernel_rfl) hBB fun x r hr => ⟨FU,(e_w41q FU x).trans hr⟩
theorem e_w42q (n : Nat) (x) : afun G_w41q T BB 0 n Tryz.f78 a_w42q S_w42q.ps S_w42q.rs x = p_w42q n x := by kernel_rfl
theorem ok_w42q : EnvOK Tryz.prog G_w42q := envOK_cons hm hT ok_w41q Tryz.func78 (by kernel_rfl) hBB fun x r hr => ⟨FU,(e_w42q FU x).trans hr⟩
theorem e_w43q (n : Nat) (x) : afun G_w42q T BB 0 n Tryz.f170 a_w43q S_w43q.ps S_w43q.rs x = p_w43q n x := by kernel_rfl
theorem ok_w43q : EnvOK Tryz.prog G_w43q := envOK_cons hm hT ok_w42q Tryz.func170 (by kernel_rfl) hBB fun x r hr => ⟨FU,(e_w43q FU x).trans hr⟩
theorem e_w44q (n : Nat) (x) : afun G_w43q T BB 0 n Tryz.f79 a_w44q S_w44q.ps S_w44q.rs x = p_w44q n x := by kernel_rfl
theorem ok_w44q : EnvOK Tryz.prog G_w44q := envOK_cons hm hT ok_w43q Tryz.func79 (by kernel_rfl) hBB fun x r hr => ⟨FU,(e_w44q FU x).trans hr⟩
theorem e_w45q (n : Nat) (x) : afun G_w44q T BB 0 n Tryz.f20 a_w45q S_w45q.ps S_w45q.rs x = p_w45q n x := by kernel_rfl
theorem ok_w45q : EnvOK Tryz.prog G_w45q := envOK_cons hm hT ok_w44q Tryz.func20 (by kernel_rfl) hBB fun x r hr => ⟨FU,(e_w45q FU x).trans hr⟩
theorem e_w46q (n : Nat) (x) : afun G_w45q T BB 0 n Tryz.f98 a_w46q S_w46q.ps S_w46q.rs x = p_w46q n x := by kernel_rfl
theorem ok_w46q : EnvOK Tryz.prog G_w46q := envOK_cons hm hT ok_w45q Tryz.func98 (by kernel_rfl) hBB fun x r hr => ⟨FU,(e_w46q FU x).trans hr⟩
theorem e_w47q (n : Nat) (x) : afun G_w46q T BB 0 n Tryz.f136 a_w47q S_w47q.ps S_w47q.rs x = p_w47q n x := by kernel_rfl
theorem ok_w47q : EnvOK Tryz.prog G_w47q := envOK_cons hm hT ok_w46q Tryz.func136 (by kernel_rfl) hBB fun x r hr => ⟨FU,(e_w47q FU x).trans hr⟩
theorem e_w48q (n : Nat) (x) : afun G_w47q T BB 0 n Tryz.f221 a_w48q S_w48q.ps S_w48q.rs x = p_w48q n x := by kernel_rfl
theorem ok_w48q : EnvOK Tryz.prog G_w48q := envOK_cons hm hT ok_w47q Tryz.func221 (by kernel_rfl) hBB fun x r hr => ⟨FU,(e_w48q FU x).trans hr⟩
theorem e_w49q (n : Nat) (x) : afun G_w48q T BB 0 n Tryz.f116 a_w49q S_w49q.ps S_w49q.rs x = p_w49q n x := by kernel_rfl
theorem ok_w49q : EnvOK Tryz.prog G_w49q := envOK_cons hm hT ok_w48q Tryz.func116 (by kernel_rfl) hBB fun x r hr => ⟨FU,(e_w49q FU x).trans hr⟩
theorem e_w50q (n : Nat) (x) : afun G_w49q T BB 0 n Tryz.f46 a_w50q S_w50q.ps S_w50q.rs x = p_w50q n x := by kernel_rfl
theorem ok_w50q : EnvOK Tryz.prog G_w50q := envOK_cons hm hT ok_w49q Tryz.func46 (by kernel_rfl) hBB fun x r hr => ⟨FU,(e_w50q FU x).trans hr⟩
theorem e_w51q (n : Nat) (x) : afun G_w50q T BB 0 n Tryz.f117 a_w51q S_w51q.ps S_w51q.rs x = p_w51q n x := by kernel_rfl
theorem ok_w51q : EnvOK Tryz.prog G_w51q := envOK_cons hm hT ok_w50q Tryz.func117 (by kernel_rfl) hBB fun x r hr => ⟨FU,(e_w51q FU x).trans hr⟩
theorem e_w52q (n : Nat) (x) : afun G_w51q T BB 0 n Tryz.f70 a_w52q S_w52q.ps S_w52q.rs x = p_w52q n x := by kernel_rfl
theorem ok_w52q : EnvOK Tryz.prog G_w52q := envOK_cons hm hT ok_w51q Tryz.func70 (by kernel_rfl) hBB fun x r hr => ⟨FU,(e_w52q FU x).trans hr⟩
theorem e_w53q (n : Nat) (x) : afun G_w52q T BB 0 n Tryz.f420 a_w53q S_w53q.ps S_w53q.rs x = p_w53q n x := by kernel_rfl
theorem ok_w53q : EnvOK Tryz.prog G_w53q := envOK_cons hm hT ok_w52q Tryz.func420 (by kernel_rfl) hBB fun x r hr => ⟨FU,(e_w53q FU x).trans hr⟩
theorem e_w54q (n : Nat) (x) : afun G_w53q T BB 0 n Tryz.f352 a_w54q S_w54q.ps S_w54q.rs x = p_w54q n x := by kernel_rfl
theorem ok_w54q : EnvOK Tryz.prog G_w54q := envOK_cons hm hT ok_w53q Tryz.func352 (by kernel_rfl) hBB fun x r hr => ⟨FU,(e_w54q FU x).trans hr⟩
theorem e_w55q (n : Nat) (x) : afun G_w54q T BB 0 n Tryz.f263 a_w55q S_w55q.ps S_w55q.rs x = p_w55q n x := by kernel_rfl
theorem ok_w55q : EnvOK Tryz.prog G_w55q := envOK_cons hm hT ok_w54q Tryz.func263 (by kernel_rfl) hBB fun x r hr => ⟨FU,(e_w55q FU x).trans hr⟩
theorem e_w56q (n : Nat) (x) : afun G_w55q T BB 0 n Tryz.f264 a_w56q S_w56q.ps S_w56q.rs x = p_w56q n x := by kernel_rfl
theorem ok_w56q : EnvOK Tryz.prog G_w56q := envOK_cons hm hT ok_w55q Tryz.func264 (by kernel_rfl) hBB fun x r hr => ⟨FU,(e_w56q FU x).trans hr⟩
theorem e_w57q (n : Nat) (x) : afun G_w56q T BB 0 n Tryz.f353 a_w57q S_w57q.ps S_w57q.rs x = p_w57q n x := by kernel_rfl
theorem ok_w57q : EnvOK Tryz.prog G_w57q := envOK_cons hm hT ok_w56q Tryz.func353 (by kernel_rfl) hBB fun x r hr => ⟨FU,(e_w57q FU x).trans hr⟩
theorem e_w58q (n : Nat) (x) : afun G_w57q T BB 0 n Tryz.f354 a_w58q S_w58q.ps S_w58q.rs x = p_w58q n x := by kernel_rfl
theorem ok_w58q : EnvOK Tryz.prog G_w58q := envOK_cons hm hT ok_w57q Tryz.func354 (by kernel_rfl) hBB fun x r hr => ⟨FU,(e_w58q FU x).trans hr⟩
theorem e_w59q (n : Nat) (x) : afun G_w58q T BB 0 n Tryz.f355 a_w59q S_w59q.ps S_w59q.rs x = p_w59q n x := by kernel_rfl
theorem ok_w59q : EnvOK Tryz.prog G_w59q := envOK_cons hm hT ok_w58q Tryz.func355 (by kernel_rfl) hBB fun x r hr => ⟨FU,(e_w59q FU x).trans hr⟩
theorem e_w60q (n : Nat) (x) : afun G_w59q T BB 0 n Tryz.f43 a_w60q S_w60q.ps S_w60q.rs x = p_w60q n x := by kernel_rfl
theorem ok_w60q : EnvOK Tryz.prog G_w60q := envOK_cons hm hT ok_w59q Tryz.func43 (by kernel_rfl) hBB fun x r hr => ⟨FU,(e_w60q FU x).trans hr⟩
theorem e_w61q (n : Nat) (x) : afun G_w60q T BB 0 n Tryz.f356 a_w61q S_w61q.ps S_w61q.rs x = p_w61q n x := by kernel_rfl
theorem ok_w61q : EnvOK Tryz.prog G_w61q := envOK_cons hm hT ok_w60q Tryz.func356 (by kernel_rfl) hBB fun x r hr => ⟨FU,(e_w61q FU x).trans hr⟩
theorem e_w62q (n : Nat) (x) : afun G_w61q T BB 0 n Tryz.f357 a_w62q S_w62q.ps S_w62q.rs x = p_w62q n x := by kernel_rfl
theorem ok_w62q : EnvOK Tryz.prog G_w62q := envOK_cons hm hT ok_w61q Tryz.func357 (by kernel_rfl) hBB fun x r hr => ⟨FU,(e_w62q FU x).trans hr⟩
theorem e_w63q (n : Nat) (x) : afun G_w62q T BB 0 n Tryz.f421 a_w63q S_w63q.ps S_w63q.rs x = p_w63q n x := by kernel_rfl
theorem ok_w63q : EnvOK Tryz.prog G_w63q := envOK_cons hm hT ok_w62q Tryz.func421 (by kernel_rfl) hBB fun x r hr => ⟨FU,(e_w63q FU x).trans hr⟩
theorem e_w64q (n : Nat) (x) : afun G_w63q T BB 0 n Tryz.f358 a_w64q S_w64q.ps S_w64q.rs x = p_w64q n x := by kernel_rfl
theorem ok_w64q : EnvOK Tryz.prog G_w64q := envOK_cons hm hT ok_w63q Tryz.func358 (by kernel_rfl) hBB fun x r hr => ⟨FU,(e_w64q FU x).trans hr⟩
theorem e_w65q (n : Nat) (x) : afun G_w64q T BB 0 n Tryz.f265 a_w65q S_w65q.ps S_w65q.rs x = p_w65q n x := by kernel_rfl
theorem ok_w65q : EnvOK Tryz.prog G_w65q := envOK_cons hm hT ok_w64q Tryz.func265 (by kernel_rfl) hBB fun x r hr => ⟨FU,(e_w65q FU x).trans hr⟩
theorem e_w66q (n : Nat) (x) : afun G_w65q T BB 0 n Tryz.f155 a_w66q S_w66q.ps S_w66q.rs x = p_w66q n x := by kernel_rfl
theorem ok_w66q : EnvOK Tryz.prog G_w66q := envOK_cons hm hT ok_w65q Tryz.func155 (by kernel_rfl) hBB fun x r hr => ⟨FU,(e_w66q FU x).trans hr⟩
theorem e_w67q (n : Nat) (x) : afun G_w66q T BB 0 n Tryz.f118 a_w67q S_w67q.ps S_w67q.rs x = p_w67q n x := by kernel_rfl
theorem ok_w67q : EnvOK Tryz.prog G_w67q := envOK_cons hm hT ok_w66q Tryz.func118 (by kernel_rfl) hBB fun x r hr => ⟨FU,(e_w67q FU x).trans hr⟩
theorem e_w68q (n : Nat) (x) : afun G_w67q T BB 0 n Tryz.f156 a_w68q S_w68q.ps S_w68q.rs x = p_w68q n x := by kernel_rfl
theorem ok_w68q : EnvOK Tryz.prog G_w68q := envOK_cons hm hT ok_w67q Tryz.func156 (by kernel_rfl) hBB fun x r hr => ⟨FU,(e_w68q FU x).trans hr⟩
theorem e_w69q (n : Nat) (x) : afun G_w68q T BB 0 n Tryz.f119 a_w69q S_w69q.ps S_w69q.rs x = p_w69q n x := by kernel_rfl
theorem ok_w69q : EnvOK Tryz.prog G_w69q := envOK_cons hm hT ok_w68q Tryz.func119 (by kernel_rfl) hBB fun x r hr => ⟨FU,(e_w69q FU x).trans hr⟩
theorem e_w70q (n : Nat) (x) : afun G_w69q T BB 0 n Tryz.f71 a_w70q S_w70q.ps S_w70q.rs x = p_w70q n x := by kernel_rfl
theorem ok_w70q : EnvOK Tryz.prog G_w70q := envOK_cons hm hT ok_w69q Tryz.func71 (by kernel_rfl) hBB fun x r hr => ⟨FU,(e_w70q FU x).trans hr⟩
theorem e_w71q (n : Nat) (x) : afun G_w70q T BB 0 n Tryz.f159 a_w71q S_w71q.ps S_w71q.rs x = p_w71q n x := by kernel_rfl
theorem ok_w71q : EnvOK Tryz.prog G_w71q := envOK_cons hm hT ok_w70q Tryz.func159 (by kernel_rfl) hBB fun x r hr => ⟨FU,(e_w71q FU x).trans hr⟩
theorem e_w72q (n : Nat) (x) : afun G_w71q T BB 0 n Tryz.f160 a_w72q S_w72q.ps S_w72q.rs x = p_w72q n x := by kernel_rfl
theorem ok_w72q : EnvOK Tryz.prog G_w72q := envOK_cons hm hT ok_w71q Tryz.func160 (by kernel_rfl) hBB fun x r hr => ⟨FU,(e_w72q FU x).trans hr⟩
theorem e_w73q (n : Nat) (x) : afun G_w72q T BB 0 n Tryz.f163 a_w73q S_w73q.ps S_w73q.rs x = p_w73q n x := by kernel_rfl
theorem ok_w73q : EnvOK Tryz.prog G_w73q := envOK_cons hm hT ok_w72q Tryz.func163 (by kernel_rfl) hBB fun x r hr => ⟨FU,(e_w73q FU x).trans hr⟩
theorem e_w74q (n : Nat) (x) : afun G_w73q T BB 0 n Tryz.f359 a_w74q S_w74q.ps S_w74q.rs x = p_w74q n x := by kernel_rfl
theorem ok_w74q : EnvOK Tryz.prog G_w74q := envOK_cons hm hT ok_w73q Tryz.func359 (by kernel_rfl) hBB fun x r hr => ⟨FU,(e_w74q FU x).trans hr⟩
theorem e_w75q (n : Nat) (x) : afun G_w74q T BB 0 n Tryz.f266 a_w75q S_w75q.ps S_w75q.rs x = p_w75q n x := by kernel_rfl
theorem ok_w75q : EnvOK Tryz.prog G_w75q := envOK_cons hm hT ok_w74q Tryz.func266 (by kernel_rfl) hBB fun x r hr => ⟨FU,(e_w75q FU x).trans hr⟩
theorem e_w76q (n : Nat) (x) : afun G_w75q T BB 0 n Tryz.f267 a_w76q S_w76q.ps S_w76q.rs x = p_w76q n x := by kernel_rfl
theorem ok_w76q : EnvOK Tryz.prog G_w76q := envOK_cons hm hT ok_w75q Tryz.func267 (by kernel_rfl) hBB fun x r hr => ⟨FU,(e_w76q FU x).trans hr⟩
theorem e_w77q (n : Nat) (x) : afun G_w76q T BB 0 n Tryz.f157 a_w77q S_w77q.ps S_w77q.rs x = p_w77q n x := by kernel_rfl
theorem ok_w77q : EnvOK Tryz.prog G_w77q := envOK_cons hm hT ok_w76q Tryz.func157 (by kernel_rfl) hBB fun x r hr => ⟨FU,(e_w77q FU x).trans hr⟩
theorem e_w78q (n : Nat) (x) : afun G_w77q T BB 0 n Tryz.f72 a_w78q S_w78q.ps S_w78q.rs x = p_w78q n x := by kernel_rfl
theorem ok_w78q : EnvOK Tryz.prog G_w78q := envOK_cons hm hT ok_w77q Tryz.func72 (by kernel_rfl) hBB fun x r hr => ⟨FU,(e_w78q FU x).trans hr⟩
theorem e_w79q (n : Nat) (x) : afun G_w78q T BB 0 n Tryz.f164 a_w79q S_w79q.ps S_w79q.rs x = p_w79q n x := by kernel_rfl
theorem ok_w79q : EnvOK Tryz.prog G_w79q := envOK_cons hm hT ok_w78q Tryz.func164 (by kernel_rfl) hBB fun x r hr => ⟨FU,(e_w79q FU x).trans hr⟩
theorem e_w80q (n : Nat) (x) : afun G_w79q T BB 0 n Tryz.f158 a_w80q S_w80q.ps S_w80q.rs x = p_w80q n x := by kernel_rfl
theorem ok_w80q : EnvOK Tryz.prog G_w80q := envOK_cons hm hT ok_w79q Tryz.func158 (by kernel_rfl) hBB fun x r hr => ⟨FU,(e_w80q FU x).trans hr⟩
theorem e_w81q (n : Nat) (x) : afun G_w80q T BB 0 n Tryz.f161 a_w81q S_w81q.ps S_w81q.rs x = p_w81q n x := by kernel_rfl
theorem ok_w81q : EnvOK Tryz.prog G_w81q := envOK_cons hm hT ok_w80q Tryz.func161 (by kernel_rfl) hBB fun x r hr => ⟨FU,(e_w81q FU x).trans hr⟩
theorem e_w82q (n : Nat) (x) : afun G_w81q T BB 0 n Tryz.f73 a_w82q S_w82q.ps S_w82q.rs x = p_w82q n x := by kernel_rfl
theorem ok_w82q : EnvOK Tryz.prog G_w82q := envOK_cons hm hT ok_w81q Tryz.func73 (by kernel_rfl) hBB fun x r hr => ⟨FU,(e_w82q FU x).trans hr⟩
theorem e_w83q (n : Nat) (x) : afun G_w82q T BB 0 n Tryz.f162 a_w83q S_w83q.ps S_w83q.rs x = p_w83q n x := by kernel_rfl
theorem ok_w83q : EnvOK Tryz.prog G_w83q := envOK_cons hm hT ok_w82q Tryz.func162 (by kernel_rfl) hBB fun x r hr => ⟨FU,(e_w83q FU x).trans hr⟩
theorem e_w84q (n : Nat) (x) : afun G_w83q T BB 0 n Tryz.f165 a_w84q S_w84q.ps S_w84q.rs x = p_w84q n x := by kernel_rfl
theorem ok_w84q : EnvOK Tryz.prog G_w84q := envOK_cons hm hT ok_w83q Tryz.func165 (by kernel_rfl) hBB fun x r hr => ⟨FU,(e_w84q FU x).trans hr⟩
theorem e_w85q (n : Nat) (x) : afun G_w84q T BB 0 n Tryz.f74 a_w85q S_w85q.ps S_w85q.rs x = p_w85q n x := by kernel_rfl
theorem ok_w85q : EnvOK Tryz.prog G_w85q := envOK_cons hm hT ok_w84q Tryz.func74 (by kernel_rfl) hBB fun x r hr => ⟨FU,(e_w85q FU x).trans hr⟩
theorem e_w86q (n : Nat) (x) : afun G_w85q T BB 0 n Tryz.f19 a_w86q S_w86q.ps S_w86q.rs x = p_w86q n x := by kernel_rfl
theorem ok_w86q : EnvOK Tryz.prog G_w86q := envOK_cons hm hT ok_w85q Tryz.func19 (by kernel_rfl) hBB fun x r hr => ⟨FU,(e_w86q FU x).trans hr⟩
theorem e_w87q (n : Nat) (x) : afun G_w86q T BB 0 n Tryz.f81 a_w87q S_w87q.ps S_w87q.rs x = p_w87q n x := by kernel_rfl
theorem ok_w87q : EnvOK Tryz.prog G_w87q := envOK_cons hm hT ok_w86q Tryz.func81 (by kernel_rfl) hBB fun x r hr => ⟨FU,(e_w87q FU x).trans hr⟩
theorem e_w88q (n : Nat) (x) : afun G_w87q T BB 0 n Tryz.f80 a_w88q S_w88q.ps S_w88q.rs x = p_w88q n x := by kernel_rfl
theorem ok_w88q : EnvOK Tryz.prog G_w88q := envOK_cons hm hT ok_w87q Tryz.func80 (by kernel_rfl) hBB fun x r hr => ⟨FU,(e_w88q FU x).trans hr⟩
theorem e_w89q (n : Nat) (x) : afun G_w88q T BB 0 n Tryz.f82 a_w89q S_w89q.ps S_w89q.rs x = p_w89q n x := by kernel_rfl
theorem ok_w89q : EnvOK Tryz.prog G_w89q := envOK_cons hm hT ok_w88q Tryz.func82 (by kernel_rfl) hBB fun x r hr => ⟨FU,(e_w89q FU x).trans hr⟩
theorem e_w90q (n : Nat) (x) : afun G_w89q T BB 0 n Tryz.f63 a_w90q S_w90q.ps S_w90q.rs x = p_w90q n x := by kernel_rfl
theorem ok_w90q : EnvOK Tryz.prog G_w90q := envOK_cons hm hT ok_w89q Tryz.func63 (by kernel_rfl) hBB fun x r hr => ⟨FU,(e_w90q FU x).trans hr⟩
theorem e_w91q (n : Nat) (x) : afun G_w90q T BB 0 n Tryz.f222 a_w91q S_w91q.ps S_w91q.rs x = p_w91q n x := by kernel_rfl
theorem ok_w91q : EnvOK Tryz.prog G_w91q := envOK_cons hm hT ok_w90q Tryz.func222 (by kernel_rfl) hBB fun x r hr => ⟨FU,(e_w91q FU x).trans hr⟩
theorem e_w92q (n : Nat) (x) : afun G_w91q T BB 0 n Tryz.f278 a_w92q S_w92q.ps S_w92q.rs x = p_w92q n x := by kernel_rfl
theorem ok_w92q : EnvOK Tryz.prog G_w92q := envOK_cons hm hT ok_w91q Tryz.func278 (by kernel_rfl) hBB fun x r hr => ⟨FU,(e_w92q FU x).trans hr⟩
theorem e_w93q (n : Nat) (x) : afun G_w92q T BB 0 n Tryz.f414 a_w93q S_w93q.ps S_w93q.rs x = p_w93q n x := by kernel_rfl
theorem ok_w93q : EnvOK Tryz.prog G_w93q := envOK_cons hm hT ok_w92q Tryz.func414 (by kernel_rfl) hBB fun x r hr => ⟨FU,(e_w93q FU x).trans hr⟩
theorem e_w94q (n : Nat) (x) : afun G_w93q T BB 0 n Tryz.f336 a_w94q S_w94q.ps S_w94q.rs x = p_w94q n x := by kernel_rfl
theorem ok_w94q : EnvOK Tryz.prog G_w94q := envOK_cons hm hT ok_w93q Tryz.func336 (by kernel_rfl) hBB fun x r hr => ⟨FU,(e_w94q FU x).trans hr⟩
theorem e_w95q (n : Nat) (x) : afun G_w94q T BB 0 n Tryz.f223 a_w95q S_w95q.ps S_w95q.rs x = p_w95q n x := by kernel_rfl
theorem ok_w95q : EnvOK Tryz.prog G_w95q := envOK_cons hm hT ok_w94q Tryz.func223 (by kernel_rfl) hBB fun x r hr => ⟨FU,(e_w95q FU x).trans hr⟩
theorem e_w96q (n : Nat) (x) : afun G_w95q T BB 0 n Tryz.f226 a_w96q S_w96q.ps S_w96q.rs x = p_w96q n x := by kernel_rfl
theorem ok_w96q : EnvOK Tryz.prog G_w96q := envOK_cons hm hT ok_w95q Tryz.func226 (by kernel_rfl) hBB fun x r hr => ⟨FU,(e_w96q FU x).trans hr⟩
theorem e_w97q (n : Nat) (x) : afun G_w96q T BB 3 n Tryz.f122 a_w97q S_w97q.ps S_w97q.rs x = p_w97q n x := by kernel_rfl
theorem ok_w97q : EnvOK Tryz.prog G_w97q := envOK_cons hm hT ok_w96q Tryz.func122 (by kernel_rfl) hBB fun x r hr => ⟨FU,(e_w97q FU x).trans hr⟩
theorem e_w98q (n : Nat) (x) : afun G_w97q T BB 0 n Tryz.f277 a_w98q S_w98q.ps S_w98q.rs x = p_w98q n x := by kernel_rfl
theorem ok_w98q : EnvOK Tryz.prog G_w98q := envOK_cons hm hT ok_w97q Tryz.func277 (by kernel_rfl) hBB fun x r hr => ⟨FU,(e_w98q FU x).trans hr⟩
theorem e_w99q (n : Nat) (x) : afun G_w98q T BB 3 n Tryz.f171 a_w99q S_w99q.ps S_w99q.rs x = p_w99q n x := by kernel_rfl
theorem ok_w99q : EnvOK Tryz.prog G_w99q := envOK_cons hm hT ok_w98q Tryz.func171 (by kernel_rfl) hBB fun x r hr => ⟨FU,(e_w99q FU x).trans hr⟩
theorem e_w100q (n : Nat) (x) : afun G_w99q T BB 0 n Tryz.f83 a_w100q S_w100q.ps S_w100q.rs x = p_w100q n x := by kernel_rfl
theorem ok_w100q : EnvOK Tryz.prog G_w100q := envOK_cons hm hT ok_w99q Tryz.func83 (by kernel_rfl) hBB fun x r hr => ⟨FU,(e_w100q FU x).trans hr⟩
theorem e_w101q (n : Nat) (x) : afun G_w100q T BB 0 n Tryz.f335 a_w101q S_w101q.ps S_w101q.rs x = p_w101q n x := by kernel_rfl
theorem ok_w101q : EnvOK Tryz.prog G_w101q := envOK_cons hm hT ok_w100q Tryz.func335 (by kernel_rfl) hBB fun x r hr => ⟨FU,(e_w101q FU x).trans hr⟩
theorem e_w102q (n : Nat) (x) : afun G_w101q T BB 0 n Tryz.f218 a_w102q S_w102q.ps S_w102q.rs x = p_w102q n x := by kernel_rfl
theorem ok_w102q : EnvOK Tryz.prog G_w102q := envOK_cons hm hT ok_w101q Tryz.func218 (by kernel_rfl) hBB fun x r hr => ⟨FU,(e_w102q FU x).trans hr⟩
theorem e_w103q (n : Nat) (x) : afun G_w102q T BB 0 n Tryz.f251 a_w103q S_w103q.ps S_w103q.rs x = p_w103q n x := by kernel_rfl
theorem ok_w103q : EnvOK Tryz.prog G_w103q := envOK_cons hm hT ok_w102q Tryz.func251 (by kernel_rfl) hBB fun x r hr => ⟨FU,(e_w103q FU x).trans hr⟩
theorem e_w104q (n : Nat) (x) : afun G_w103q T BB 0 n Tryz.f366 a_w104q S_w104q.ps S_w104q.rs x = p_w104q n x := by kernel_rfl
theorem ok_w104q : EnvOK Tryz.prog G_w104q := envOK_cons hm hT ok_w103q Tryz.func366 (by kernel_rfl) hBB fun x r hr => ⟨FU,(e_w104q FU x).trans hr⟩
theorem e_w105q (n : Nat) (x) : afun G_w104q T BB 0 n Tryz.f279 a_w105q S_w105q.ps S_w105q.rs x = p_w105q n x := by kernel_rfl
theorem ok_w105q : EnvOK Tryz.prog G_w105q := envOK_cons hm hT ok_w104q Tryz.func279 (by kernel_rfl) hBB fun x r hr => ⟨FU,(e_w105q FU x).trans hr⟩
theorem e_w106q (n : Nat) (x) : afun G_w105q T BB 0 n Tryz.f281 a_w106q S_w106q.ps S_w106q.rs x = p_w106q n x := by kernel_rfl
theorem ok_w106q : EnvOK Tryz.prog G_w106q := envOK_cons hm hT ok_w105q Tryz.func281 (by kernel_rfl) hBB fun x r hr => ⟨FU,(e_w106q FU x).trans hr⟩
theorem e_w107q (n : Nat) (x) : afun G_w106q T BB 0 n Tryz.f282 a_w107q S_w107q.ps S_w107q.rs x = p_w107q n x := by kernel_rfl
theorem ok_w107q : EnvOK Tryz.prog G_w107q := envOK_cons hm hT ok_w106q Tryz.func282 (by kernel_rfl) hBB fun x r hr => ⟨FU,(e_w107q FU x).trans hr⟩
theorem e_w108q (n : Nat) (x) : afun G_w107q T BB 0 n Tryz.f287 a_w108q S_w108q.ps S_w108q.rs x = p_w108q n x := by kernel_rfl
theorem ok_w108q : EnvOK Tryz.prog G_w108q := envOK_cons hm hT ok_w107q Tryz.func287 (by kernel_rfl) hBB fun x r hr => ⟨FU,(e_w108q FU x).trans hr⟩
theorem e_w109q (n : Nat) (x) : afun G_w108q T BB 0 n Tryz.f459 a_w109q S_w109q.ps S_w109q.rs x = p_w109q n x := by kernel_rfl
theorem ok_w109q : EnvOK Tryz.prog G_w109q := envOK_cons hm hT ok_w108q Tryz.func459 (by kernel_rfl) hBB fun x r hr => ⟨FU,(e_w109q FU x).trans hr⟩
theorem e_w110q (n : Nat) (x) : afun G_w109q T BB 1 n Tryz.f423 a_w110q S_w110q.ps S_w110q.rs x = p_w110q n x := by kernel_rfl
theorem ok_w110q : EnvOK Tryz.prog G_w110q := envOK_cons hm hT ok_w109q Tryz.func423 (by kernel_rfl) hBB fun x r hr => ⟨FU,(e_w110q FU x).trans hr⟩
theorem e_w111q (n : Nat) (x) : afun G_w110q T BB 0 n Tryz.f367 a_w111q S_w111q.ps S_w111q.rs x = p_w111q n x := by kernel_rfl
theorem ok_w111q : EnvOK Tryz.prog G_w111q := envOK_cons hm hT ok_w110q Tryz.func367 (by kernel_rfl) hBB fun x r hr => ⟨FU,(e_w111q FU x).trans hr⟩
theorem e_w112q (n : Nat) (x) : afun G_w111q T BB 0 n Tryz.f283 a_w112q S_w112q.ps S_w112q.rs x = p_w112q n x := by kernel_rfl
theorem ok_w112q : EnvOK Tryz.prog G_w112q := envOK_cons hm hT ok_w111q Tryz.func283 (by kernel_rfl) hBB fun x r hr => ⟨FU,(e_w112q FU x).trans hr⟩
theorem e_w113q (n : Nat) (x) : afun G_w112q T BB 0 n Tryz.f57 a_w113q S_w113q.ps S_w113q.rs x = p_w113q n x := by kernel_rfl
theorem ok_w113q : EnvOK Tryz.prog G_w113q := envOK_cons hm hT ok_w112q Tryz.func57 (by kernel_rfl) hBB fun x r hr => ⟨FU,(e_w113q FU x).trans hr⟩
theorem e_w114q (n : Nat) (x) : afun G_w113q T BB 0 n Tryz.f425 a_w114q S_w114q.ps S_w114q.rs x = p_w114q n x := by kernel_rfl
theorem ok_w114q : EnvOK Tryz.prog G_w114q := envOK_cons hm hT ok_w113q Tryz.func425 (by kernel_rfl) hBB fun x r hr => ⟨FU,(e_w114q FU x).trans hr⟩
theorem e_w115q (n : Nat) (x) : afun G_w114q T BB 1 n Tryz.f368 a_w115q S_w115q.ps S_w115q.rs x = p_w115q n x := by kernel_rfl
theorem ok_w115q : EnvOK Tryz.prog G_w115q := envOK_cons hm hT ok_w114q Tryz.func368 (by kernel_rfl) hBB fun x r hr => ⟨FU,(e_w115q FU x).trans hr⟩
theorem e_w116q (n : Nat) (x) : afun G_w115q T BB 0 n Tryz.f284 a_w116q S_w116q.ps S_w116q.rs x = p_w116q n x := by kernel_rfl
theorem ok_w116q : EnvOK Tryz.prog G_w116q := envOK_cons hm hT ok_w115q Tryz.func284 (by kernel_rfl) hBB fun x r hr => ⟨FU,(e_w116q FU x).trans hr⟩
def ren_w117q : Go.Shelf.Ren := ⟨fun n => if n = 6 then 370 else if n = 8 then 426 else if n = 9 then 55 else if n = 11 then 460 else if n = 13 then 142 else if n = 12 then 141 else if n = 23 then 249 else if n = 24 then 250 else if n = 14 then 240 else if n = 15 then 241 else if n = 16 then 242 else if n = 17 then 243 else if n = 18 then 244 else if n = 19 then 245 else if n = 20 then 246 else if n = 21 then 247 else if n = 22 then 248 else if n = 25 then 341 else if n = 26 then 342 else if n = 27 then 343 else if n = 28 then 344 else if n = 29 then 345 else if n = 30 then 335 else if n = 31 then 416 else n,fun n => if n = 26 then 2 else if n = 28 then 393 else if n = 24 then 25 else if n = 0 then 0 else if n = 3 then 3 else if n = 37 then 183 else if n = 48 then 292 else if n = 50 then 294 else if n = 4 then 4 else if n = 40 then 286 else if n = 39 then 285 else if n = 45 then 279 else if n = 5 then 5 else if n = 9 then 9 else if n = 51 then 359 else if n = 55 then 363 else if n = 57 then 421 else if n = 58 then 422 else if n = 33 then 107 else n,fun n => n⟩
theorem lays_w117q : Go.Proofs.SlLaysZI.n6 Tryz.prog ren_w117q where
 mixed := by kernel_rfl
 f6 := ⟨"slices.Sorted[int64]", by decide, Tryz.func370.trans (congrArg some (by kernel_rfl))⟩
 f8 := ⟨"slices.Collect[int64]", by decide, Tryz.func426.trans (congrArg some (by kernel_rfl))⟩
 f11 := ⟨"slices.AppendSeq[[]int64,int64]", by decide, Tryz.func460.trans (congrArg some (by kernel_rfl))⟩
 t0 := Tryz.underlying0
 a0 := Tryz.isAgg0
 z0 := Tryz.sizeOf0
 v0 := Tryz.zeroValue0
 t24 := Tryz.underlying25
 a24 := Tryz.isAgg25
 z24 := Tryz.sizeOf25
 v24 := Tryz.zeroValue25
 t26 := Tryz.underlying2
 a26 := Tryz.isAgg2
 z26 := Tryz.sizeOf2
 v26 := Tryz.zeroValue2
 t28 := Tryz.underlying393
 a28 := Tryz.isAgg393
 z28 := Tryz.sizeOf393
 v28 := Tryz.zeroValue393
 i26 := by kernel_rfl
def ren_slices_Sorted_int64s : Go.Shelf.Ren := ⟨fun n => if n = 5 then 55 else if n = 8 then 142 else if n = 7 then 141 else if n = 19 then 249 else if n = 20 then 250 else if n = 10 then 240 else if n = 11 then 241 else if n = 12 then 242 else if n = 13 then 243 else if n = 14 then 244 else if n = 15 then 245 else if n = 16 then 246 else if n = 17 then 247 else if n = 18 then 248 else if n = 30 then 341 else if n = 31 then 342 else if n = 32 then 343 else if n = 33 then 344 else if n = 34 then 345 else if n = 35 then 335 else if n = 40 then 416 else n,fun n => if n = 23 then 25 else if n = 25 then 2 else if n = 3 then 3 else if n = 32 then 183 else if n = 22 then 25 else if n = 0 then 0 else if n = 44 then 292 else if n = 46 then 294 else if n = 4 then 4 else if n = 36 then 286 else if n = 35 then 285 else if n = 41 then 279 else if n = 5 then 5 else if n = 9 then 9 else if n = 53 then 359 else if n = 57 then 363 else if n = 63 then 421 else if n = 64 then 422 else n,fun n => n⟩
theorem lays_slices_Sorted_int64s : Go.Proofs.SlLaysM.n5 Tryz.prog ren_slices_Sorted_int64s where
 mixed := by kernel_rfl
 f5 := ⟨"slices.Sort[[]int64,int64]", by decide, Tryz.func55.trans (congrArg some (by kernel_rfl))⟩
 f7 := ⟨"slices.pdqsortOrdered[int64]", by decide, Tryz.func141.trans (congrArg some (by kernel_rfl))⟩
 f8 := Tryz.func142.trans (congrArg some (by kernel_rfl))
 f10 := ⟨"slices.insertionSortOrdered[int64]", by decide, Tryz.func240.trans (congrArg some (by kernel_rfl))⟩
 f11 := ⟨"slices.heapSortOrdered[int64]", by decide, Tryz.func241.trans (congrArg some (by kernel_rfl))⟩
 f12 := ⟨"slices.breakPatternsOrdered[int64]", by decide, Tryz.func242.trans (congrArg some (by kernel_rfl))⟩
 f13 := ⟨"slices.choosePivotOrdered[int64]", by decide, Tryz.func243.trans (congrArg some (by kernel_rfl))⟩
 f14 := ⟨"slices.reverseRangeOrdered[int64]", by decide, Tryz.func244.trans (congrArg some (by kernel_rfl))⟩
 f15 := ⟨"slices.partialInsertionSortOrdered[int64]", by decide, Tryz.func245.trans (congrArg some (by kernel_rfl))⟩
 f16 := ⟨"cmp.Less[int64]", by decide, Tryz.func246.trans (congrArg some (by kernel_rfl))⟩
 f17 := ⟨"slices.partitionEqualOrdered[int64]", by decide, Tryz.func247.trans (congrArg some (by kernel_rfl))⟩
 f18 := ⟨"slices.partitionOrdered[int64]", by decide, Tryz.func248.trans (congrArg some (by kernel_rfl))⟩
 f19 := Tryz.func249.trans (congrArg some (by kernel_rfl))
 f20 := Tryz.func250.trans (congrArg some (by kernel_rfl))
 f30 := ⟨"slices.siftDownOrdered[int64]", by decide, Tryz.func341.trans (congrArg some (by kernel_rfl))⟩
 f31 := Tryz.func342.trans (congrArg some (by kernel_rfl))
 f32 := Tryz.func343.trans (congrArg some (by kernel_rfl))
 f33 := ⟨"slices.medianAdjacentOrdered[int64]", by decide, Tryz.func344.trans (congrArg some (by kernel_rfl))⟩
 f34 := ⟨"slices.medianOrdered[int64]", by decide, Tryz.func345.trans (congrArg some (by kernel_rfl))⟩
 f35 := ⟨"cmp.isNaN[int64]", by decide, Tryz.func335.trans (congrArg some (by kernel_rfl))⟩
 f40 := ⟨"slices.order2Ordered[int64]", by decide, Tryz.func416.trans (congrArg some (by kernel_rfl))⟩
 t0 := Tryz.underlying0
 a0 := Tryz.isAgg0
 z0 := Tryz.sizeOf0
 v0 := Tryz.zeroValue0
 t3 := Tryz.underlying3
 a3 := Tryz.isAgg3
 z3 := Tryz.sizeOf3
 v3 := Tryz.zeroValue3
 t4 := Tryz.underlying4
 a4 := Tryz.isAgg4
 z4 := Tryz.sizeOf4
 v4 := Tryz.zeroValue4
 t5 := Tryz.underlying5
 a5 := Tryz.isAgg5
 z5 := Tryz.sizeOf5
 v5 := Tryz.zeroValue5
 t9 := Tryz.underlying9
 a9 := Tryz.isAgg9
 z9 := Tryz.sizeOf9
 v9 := Tryz.zeroValue9
 t22 := Tryz.underlying25
 a22 := Tryz.isAgg25
 z22 := Tryz.sizeOf25
 v22 := Tryz.zeroValue25
 t23 := Tryz.underlying25
 a23 := Tryz.isAgg25
 z23 := Tryz.sizeOf25
 v23 := Tryz.zeroValue25
 t25 := Tryz.underlying2
 a25 := Tryz.isAgg2
 z25 := Tryz.sizeOf2
 v25 := Tryz.zeroValue2
 t32 := Tryz.underlying183
 a32 := Tryz.isAgg183
 z32 := Tryz.sizeOf183
 v32 := Tryz.zeroValue183
 t35 := Tryz.underlying285
 a35 := Tryz.isAgg285
 z35 := Tryz.sizeOf285
 v35 := Tryz.zeroValue285
 t36 := Tryz.underlying286
 a36 := Tryz.isAgg286
 z36 := Tryz.sizeOf286
 v36 := Tryz.zeroValue286
 t41 := Tryz.underlying279
 a41 := Tryz.isAgg279
 z41 := Tryz.sizeOf279
 v41 := Tryz.zeroValue279
 t44 := Tryz.underlying292
 a44 := Tryz.isAgg292
 z44 := Tryz.sizeOf292
 v44 := Tryz.zeroValue292
 t46 := Tryz.underlying294
 a46 := Tryz.isAgg294
 z46 := Tryz.sizeOf294
 v46 := Tryz.zeroValue294
 t53 := Tryz.underlying359
 a53 := Tryz.isAgg359
 z53 := Tryz.sizeOf359
 v53 := Tryz.zeroValue359
 t57 := Tryz.underlying363
 a57 := Tryz.isAgg363
 z57 := Tryz.sizeOf363
 v57 := Tryz.zeroValue363
 t63 := Tryz.underlying421
 a63 := Tryz.isAgg421
 z63 := Tryz.sizeOf421
 v63 := Tryz.zeroValue421
 t64 := Tryz.underlying422
 a64 := Tryz.isAgg422
 z64 := Tryz.sizeOf422
 v64 := Tryz.zeroValue422
section
attribute [local go_sem] Oper.semAt_some
set_option maxRecDepth 100000 in
set_option maxHeartbeats 2000000 in
theorem values1_w117q (n : Nat) (hn : 1 ≤ n) (l Bs n₀ b off cap : Nat) (zs : List Int) (hreach : zs.length * 8 ≤ 140737488351232) (hb : b < n₀) (w0 : World) (J : List Int → World → Prop) (hB : ∀ pre W1,J pre W1 → Below n₀ w0 W1)
  (hY : ∀ pre x W,J pre W → pre.length < zs.length → YieldAt Fence.wide (n - 1) Tryz.prog l #[.int .i64 x] W fun e W' => e = .returned (.bool true) ∧ J (pre ++ [x]) W' ∧ KeepsWalks W W')
  (W : World) (hBs : W.cell? ⟨Bs,0,none⟩ = some (.slice (some ⟨b,off,none⟩) zs.length cap)) (hc : ∀ j (h : j < zs.length),w0.cell? ⟨b,off + j,none⟩ = some (.int .i64 zs[j])) (h0 : J [] W) :
  CallsIn Fence.wide n Tryz.prog 427 #[.func (.yield l) #[] #[],.pointer (some ⟨Bs,0,none⟩)] W fun e W' => (∃ v,e = .returned v) ∧ J zs W' := by
 have hro : Fence.wide.round = none := rfl
 have h7 : Fence.wide.fn 427 := trivial
 refine callsIn_of_wp Tryz.func427 rfl h7 ?_ hro
 simp only [Tryz.ntmps427,List.size_toArray,List.length_cons,List.length_nil,Nat.reduceAdd,Nat.reduceSub,Array.replicate_succ,Array.replicate_zero,List.push_toArray,List.append_toArray,List.nil_append,List.cons_append]
 gi_wp2
 gi_loopw [7] (fun i wr => ∃ k : Nat,k ≤ zs.length ∧ i = .int .i64 k ∧ J (zs.take k) wr)
  (fun i _ => zs.length - (Go.RowKit.intOf i).toNat)
 case atStart => exact ⟨0,Nat.zero_le _,rfl,h0⟩
 case round =>
  obtain ⟨k,hk,rfl,hJs⟩ := hrel
  have hnx := hB _ _ hJs
  by_cases hlt : k < zs.length
  ·have hcx : wr.cell? ⟨b,off + k,none⟩ = some (.int .i64 zs[k]) := (hnx.cell (p := ⟨b,off + k,none⟩) hb).trans (hc k hlt)
   obtain ⟨fn,tmps,assign,body,hy,hR⟩ := hY _ zs[k] wr hJs (by rw [List.length_take]; omega)
   generalize hzk : zs[k] = zk at hcx hR hy
   gi_wp2
   refine hR.mono ?_
   rintro e W3 ⟨rfl,hJ3,hk3⟩
   gi_wp2
   go_roundw
   case rel => exact ⟨k + 1,by omega,by simp,by rw [List.take_succ_eq_append_getElem hlt,hzk]; exact hJ3⟩
   case measure => simp [Go.RowKit.intOf]; omega
  ·obtain rfl : k = zs.length := by omega
   gi_wp2
   go_end0
   exact ⟨⟨_,rfl⟩,by rw [List.take_length] at hJs; exact hJs⟩
set_option maxRecDepth 100000 in
set_option maxHeartbeats 1000000 in
theorem values0_w117q (n : Nat) (l Bs : Nat) (A : Option Addr) (cap : Nat) (J : List Int → World → Prop) (W : World) (hBs : W.cell? ⟨Bs,0,none⟩ = some (.slice A 0 cap)) (h0 : J [] W) :
  CallsIn Fence.wide n Tryz.prog 427 #[.func (.yield l) #[] #[],.pointer (some ⟨Bs,0,none⟩)] W fun e W' => (∃ v,e = .returned v) ∧ J [] W' := by
 have hro : Fence.wide.round = none := rfl
 have h7 : Fence.wide.fn 427 := trivial
 refine callsIn_of_wp Tryz.func427 rfl h7 ?_ hro
 simp only [Tryz.ntmps427,List.size_toArray,List.length_cons,List.length_nil,Nat.reduceAdd,Nat.reduceSub,Array.replicate_succ,Array.replicate_zero,List.push_toArray,List.append_toArray,List.nil_append,List.cons_append]
 gi_wp2
 gi_loopw [7] (fun i wr => i = .int .i64 0 ∧ J [] wr) (fun _ _ => 0)
 case atStart => exact ⟨rfl,h0⟩
 case round =>
  obtain ⟨rfl,hJs⟩ := hrel
  gi_wp2
  go_end0
  exact ⟨⟨_,rfl⟩,hJs⟩
end
theorem sound_w117q : Sound Tryz.prog 370 S_w117q := sound_sorted fun w Bs zs hr hI => callsIn_wide.1 (sortedB lays_w117q 4 (by omega) (sortsWide lays_slices_Sorted_int64s rfl 3) (enters_of Tryz.func55 (by kernel_rfl) rfl) 427 _ (enters_of Tryz.func427 (by kernel_rfl) rfl) zs (by simp only [maxLen]; omega) (by omega) w (fun W hW => gives_of values1_w117q values0_w117q 1 (by omega) W Bs zs hr (hI.below hW)))
theorem ok_w117q : EnvOK Tryz.prog G_w117q := envOK_sound ok_w116q ⟨_,Tryz.func370,by kernel_rfl,by kernel_rfl⟩ sound_w117q
theorem e_w118q (n : Nat) (x) : afun G_w117q T BB 0 n Tryz.f369 a_w118q S_w118q.ps S_w118q.rs x = p_w118q n x := by kernel_rfl
theorem ok_w118q : EnvOK Tryz.prog G_w118q := envOK_cons hm hT ok_w117q Tryz.func369 (by kernel_rfl) hBB fun x r hr => ⟨FU,(e_w118q FU x).trans hr⟩
theorem e_w119q (n : Nat) (x) : afun G_w118q T BB 1 n Tryz.f285 a_w119q S_w119q.ps S_w119q.rs x = p_w119q n x := by kernel_rfl
theorem ok_w119q : EnvOK Tryz.prog G_w119q := envOK_cons hm hT ok_w118q Tryz.func285 (by kernel_rfl) hBB fun x r hr => ⟨FU,(e_w119q FU x).trans hr⟩
theorem e_w120q (n : Nat) (x) : afun G_w119q T BB 6 n Tryz.f374 a_w120q S_w120q.ps S_w120q.rs x = p_w120q n x := by kernel_rfl
theorem ok_w120q : EnvOK Tryz.prog G_w120q := envOK_cons hm hT ok_w119q Tryz.func374 (by kernel_rfl) hBB fun x r hr => ⟨FU,(e_w120q FU x).trans hr⟩
theorem e_w121q (n : Nat) (x) : afun G_w120q T BB 1 n Tryz.f461 a_w121q S_w121q.ps S_w121q.rs x = p_w121q n x := by kernel_rfl
theorem ok_w121q : EnvOK Tryz.prog G_w121q := envOK_cons hm hT ok_w120q Tryz.func461 (by kernel_rfl) hBB fun x r hr => ⟨FU,(e_w121q FU x).trans hr⟩
theorem e_w122q (n : Nat) (x) : afun G_w121q T BB 0 n Tryz.f430 a_w122q S_w122q.ps S_w122q.rs x = p_w122q n x := by kernel_rfl
theorem ok_w122q : EnvOK Tryz.prog G_w122q := envOK_cons hm hT ok_w121q Tryz.func430 (by kernel_rfl) hBB fun x r hr => ⟨FU,(e_w122q FU x).trans hr⟩
theorem e_w123q (n : Nat) (x) : afun G_w122q T BB 0 n Tryz.f375 a_w123q S_w123q.ps S_w123q.rs x = p_w123q n x := by kernel_rfl
theorem ok_w123q : EnvOK Tryz.prog G_w123q := envOK_cons hm hT ok_w122q Tryz.func375 (by kernel_rfl) hBB fun x r hr => ⟨FU,(e_w123q FU x).trans hr⟩
theorem e_w124q (n : Nat) (x) : afun G_w123q T BB 3 n Tryz.f286 a_w124q S_w124q.ps S_w124q.rs x = p_w124q n x := by kernel_rfl
theorem ok_w124q : EnvOK Tryz.prog G_w124q := envOK_cons hm hT ok_w123q Tryz.func286 (by kernel_rfl) hBB fun x r hr => ⟨FU,(e_w124q FU x).trans hr⟩
theorem e_w125q (n : Nat) (x) : afun G_w124q T BB 2 n Tryz.f172 a_w125q S_w125q.ps S_w125q.rs x = p_w125q n x := by kernel_rfl
theorem ok_w125q : EnvOK Tryz.prog G_w125q := envOK_cons hm hT ok_w124q Tryz.func172 (by kernel_rfl) hBB fun x r hr => ⟨FU,(e_w125q FU x).trans hr⟩
theorem e_w126q (n : Nat) (x) : afun G_w125q T BB 2 n Tryz.f176 a_w126q S_w126q.ps S_w126q.rs x = p_w126q n x := by kernel_rfl
theorem ok_w126q : EnvOK Tryz.prog G_w126q := envOK_cons hm hT ok_w125q Tryz.func176 (by kernel_rfl) hBB fun x r hr => ⟨FU,(e_w126q FU x).trans hr⟩
theorem e_w127q (n : Nat) (x) : afun G_w126q T BB 0 n Tryz.f174 a_w127q S_w127q.ps S_w127q.rs x = p_w127q n x := by kernel_rfl
theorem ok_w127q : EnvOK Tryz.prog G_w127q := envOK_cons hm hT ok_w126q Tryz.func174 (by kernel_rfl) hBB fun x r hr => ⟨FU,(e_w127q FU x).trans hr⟩
theorem e_w128q (n : Nat) (x) : afun G_w127q T BB 0 n Tryz.f291 a_w128q S_w128q.ps S_w128q.rs x = p_w128q n x := by kernel_rfl
theorem ok_w128q : EnvOK Tryz.prog G_w128q := envOK_cons hm hT ok_w127q Tryz.func291 (by kernel_rfl) hBB fun x r hr => ⟨FU,(e_w128q FU x).trans hr⟩
theorem e_w129q (n : Nat) (x) : afun G_w128q T BB 0 n Tryz.f177 a_w129q S_w129q.ps S_w129q.rs x = p_w129q n x := by kernel_rfl
theorem ok_w129q : EnvOK Tryz.prog G_w129q := envOK_cons hm hT ok_w128q Tryz.func177 (by kernel_rfl) hBB fun x r hr => ⟨FU,(e_w129q FU x).trans hr⟩
theorem e_w130q (n : Nat) (x) : afun G_w129q T BB 3 n Tryz.f84 a_w130q S_w130q.ps S_w130q.rs x = p_w130q n x := by kernel_rfl
theorem ok_w130q : EnvOK Tryz.prog G_w130q := envOK_cons hm hT ok_w129q Tryz.func84 (by kernel_rfl) hBB fun x r hr => ⟨FU,(e_w130q FU x).trans hr⟩
theorem e_w131q (n : Nat) (x) : afun G_w130q T BB 0 n Tryz.f297 a_w131q S_w131q.ps S_w131q.rs x = p_w131q n x := by kernel_rfl
theorem ok_w131q : EnvOK Tryz.prog G_w131q := envOK_cons hm hT ok_w130q Tryz.func297 (by kernel_rfl) hBB fun x r hr => ⟨FU,(e_w131q FU x).trans hr⟩
theorem e_w132q (n : Nat) (x) : afun G_w131q T BB 0 n Tryz.f301 a_w132q S_w132q.ps S_w132q.rs x = p_w132q n x := by kernel_rfl
theorem ok_w132q : EnvOK Tryz.prog G_w132q := envOK_cons hm hT ok_w131q Tryz.func301 (by kernel_rfl) hBB fun x r hr => ⟨FU,(e_w132q FU x).trans hr⟩
theorem e_w133q (n : Nat) (x) : afun G_w132q T BB 0 n Tryz.f376 a_w133q S_w133q.ps S_w133q.rs x = p_w133q n x := by kernel_rfl
theorem ok_w133q : EnvOK Tryz.prog G_w133q := envOK_cons hm hT ok_w132q Tryz.func376 (by kernel_rfl) hBB fun x r hr => ⟨FU,(e_w133q FU x).trans hr⟩
theorem e_w134q (n : Nat) (x) : afun G_w133q T BB 0 n Tryz.f300 a_w134q S_w134q.ps S_w134q.rs x = p_w134q n x := by kernel_rfl
theorem ok_w134q : EnvOK Tryz.prog G_w134q := envOK_cons hm hT ok_w133q Tryz.func300 (by kernel_rfl) hBB fun x r hr => ⟨FU,(e_w134q FU x).trans hr⟩
theorem e_w135q (n : Nat) (x) : afun G_w134q T BB 0 n Tryz.f377 a_w135q S_w135q.ps S_w135q.rs x = p_w135q n x := by kernel_rfl
theorem ok_w135q : EnvOK Tryz.prog G_w135q := envOK_cons hm hT ok_w134q Tryz.func377 (by kernel_rfl) hBB fun x r hr => ⟨FU,(e_w135q FU x).trans hr⟩
theorem e_w136q (n : Nat) (x) : afun G_w135q T BB 0 n Tryz.f292 a_w136q S_w136q.ps S_w136q.rs x = p_w136q n x := by kernel_rfl
theorem ok_w136q : EnvOK Tryz.prog G_w136q := envOK_cons hm hT ok_w135q Tryz.func292 (by kernel_rfl) hBB fun x r hr => ⟨FU,(e_w136q FU x).trans hr⟩
theorem e_w137q (n : Nat) (x) : afun G_w136q T BB 0 n Tryz.f293 a_w137q S_w137q.ps S_w137q.rs x = p_w137q n x := by kernel_rfl
theorem ok_w137q : EnvOK Tryz.prog G_w137q := envOK_cons hm hT ok_w136q Tryz.func293 (by kernel_rfl) hBB fun x r hr => ⟨FU,(e_w137q FU x).trans hr⟩
theorem e_w138q (n : Nat) (x) : afun G_w137q T BB 0 n Tryz.f178 a_w138q S_w138q.ps S_w138q.rs x = p_w138q n x := by kernel_rfl
theorem ok_w138q : EnvOK Tryz.prog G_w138q := envOK_cons hm hT ok_w137q Tryz.func178 (by kernel_rfl) hBB fun x r hr => ⟨FU,(e_w138q FU x).trans hr⟩
theorem e_w139q (n : Nat) (x) : afun G_w138q T BB 3 n Tryz.f86 a_w139q S_w139q.ps S_w139q.rs x = p_w139q n x := by kernel_rfl
theorem ok_w139q : EnvOK Tryz.prog G_w139q := envOK_cons hm hT ok_w138q Tryz.func86 (by kernel_rfl) hBB fun x r hr => ⟨FU,(e_w139q FU x).trans hr⟩
theorem e_w140q (n : Nat) (x) : afun G_w139q T BB 0 n Tryz.f295 a_w140q S_w140q.ps S_w140q.rs x = p_w140q n x := by kernel_rfl
theorem ok_w140q : EnvOK Tryz.prog G_w140q := envOK_cons hm hT ok_w139q Tryz.func295 (by kernel_rfl) hBB fun x r hr => ⟨FU,(e_w140q FU x).trans hr⟩
theorem e_w141q (n : Nat) (x) : afun G_w140q T BB 0 n Tryz.f298 a_w141q S_w141q.ps S_w141q.rs x = p_w141q n x := by kernel_rfl
theorem ok_w141q : EnvOK Tryz.prog G_w141q := envOK_cons hm hT ok_w140q Tryz.func298 (by kernel_rfl) hBB fun x r hr => ⟨FU,(e_w141q FU x).trans hr⟩
theorem e_w142q (n : Nat) (x) : afun G_w141q T BB 0 n Tryz.f379 a_w142q S_w142q.ps S_w142q.rs x = p_w142q n x := by kernel_rfl
theorem ok_w142q : EnvOK Tryz.prog G_w142q := envOK_cons hm hT ok_w141q Tryz.func379 (by kernel_rfl) hBB fun x r hr => ⟨FU,(e_w142q FU x).trans hr⟩
theorem e_w143q (n : Nat) (x) : afun G_w142q T BB 0 n Tryz.f338 a_w143q S_w143q.ps S_w143q.rs x = p_w143q n x := by kernel_rfl
theorem ok_w143q : EnvOK Tryz.prog G_w143q := envOK_cons hm hT ok_w142q Tryz.func338 (by kernel_rfl) hBB fun x r hr => ⟨FU,(e_w143q FU x).trans hr⟩
theorem e_w144q (n : Nat) (x) : afun G_w143q T BB 0 n Tryz.f228 a_w144q S_w144q.ps S_w144q.rs x = p_w144q n x := by kernel_rfl
theorem ok_w144q : EnvOK Tryz.prog G_w144q := envOK_cons hm hT ok_w143q Tryz.func228 (by kernel_rfl) hBB fun x r hr => ⟨FU,(e_w144q FU x).trans hr⟩
theorem e_w145q (n : Nat) (x) : afun G_w144q T BB 3 n Tryz.f296 a_w145q S_w145q.ps S_w145q.rs x = p_w145q n x := by kernel_rfl
theorem ok_w145q : EnvOK Tryz.prog G_w145q := envOK_cons hm hT ok_w144q Tryz.func296 (by kernel_rfl) hBB fun x r hr => ⟨FU,(e_w145q FU x).trans hr⟩
theorem e_w146q (n : Nat) (x) : afun G_w145q T BB 0 n Tryz.f181 a_w146q S_w146q.ps S_w146q.rs x = p_w146q n x := by kernel_rfl
theorem ok_w146q : EnvOK Tryz.prog G_w146q := envOK_cons hm hT ok_w145q Tryz.func181 (by kernel_rfl) hBB fun x r hr => ⟨FU,(e_w146q FU x).trans hr⟩
theorem e_w147q (n : Nat) (x) : afun G_w146q T BB 0 n Tryz.f299 a_w147q S_w147q.ps S_w147q.rs x = p_w147q n x := by kernel_rfl
theorem ok_w147q : EnvOK Tryz.prog G_w147q := envOK_cons hm hT ok_w146q Tryz.func299 (by kernel_rfl) hBB fun x r hr => ⟨FU,(e_w147q FU x).trans hr⟩
theorem e_w148q (n : Nat) (x) : afun G_w147q T BB 0 n Tryz.f182 a_w148q S_w148q.ps S_w148q.rs x = p_w148q n x := by kernel_rfl
theorem ok_w148q : EnvOK Tryz.prog G_w148q := envOK_cons hm hT ok_w147q Tryz.func182 (by kernel_rfl) hBB fun x r hr => ⟨FU,(e_w148q FU x).trans hr⟩
theorem e_w149q (n : Nat) (x) : afun G_w148q T BB 0 n Tryz.f88 a_w149q S_w149q.ps S_w149q.rs x = p_w149q n x := by kernel_rfl
theorem ok_w149q : EnvOK Tryz.prog G_w149q := envOK_cons hm hT ok_w148q Tryz.func88 (by kernel_rfl) hBB fun x r hr => ⟨FU,(e_w149q FU x).trans hr⟩
theorem e_w150q (n : Nat) (x) : afun G_w149q T BB 0 n Tryz.f312 a_w150q S_w150q.ps S_w150q.rs x = p_w150q n x := by kernel_rfl
theorem ok_w150q : EnvOK Tryz.prog G_w150q := envOK_cons hm hT ok_w149q Tryz.func312 (by kernel_rfl) hBB fun x r hr => ⟨FU,(e_w150q FU x).trans hr⟩
theorem e_w151q (n : Nat) (x) : afun G_w150q T BB 0 n Tryz.f196 a_w151q S_w151q.ps S_w151q.rs x = p_w151q n x := by kernel_rfl
theorem ok_w151q : EnvOK Tryz.prog G_w151q := envOK_cons hm hT ok_w150q Tryz.func196 (by kernel_rfl) hBB fun x r hr => ⟨FU,(e_w151q FU x).trans hr⟩
theorem e_w152q (n : Nat) (x) : afun G_w151q T BB 0 n Tryz.f183 a_w152q S_w152q.ps S_w152q.rs x = p_w152q n x := by kernel_rfl
theorem ok_w152q : EnvOK Tryz.prog G_w152q := envOK_cons hm hT ok_w151q Tryz.func183 (by kernel_rfl) hBB fun x r hr => ⟨FU,(e_w152q FU x).trans hr⟩
theorem e_w153q (n : Nat) (x) : afun G_w152q T BB 0 n Tryz.f184 a_w153q S_w153q.ps S_w153q.rs x = p_w153q n x := by kernel_rfl
theorem ok_w153q : EnvOK Tryz.prog G_w153q := envOK_cons hm hT ok_w152q Tryz.func184 (by kernel_rfl) hBB fun x r hr => ⟨FU,(e_w153q FU x).trans hr⟩
theorem e_w154q (n : Nat) (x) : afun G_w153q T BB 0 n Tryz.f185 a_w154q S_w154q.ps S_w154q.rs x = p_w154q n x := by kernel_rfl
theorem ok_w154q : EnvOK Tryz.prog G_w154q := envOK_cons hm hT ok_w153q Tryz.func185 (by kernel_rfl) hBB fun x r hr => ⟨FU,(e_w154q FU x).trans hr⟩
theorem e_w155q (n : Nat) (x) : afun G_w154q T BB 0 n Tryz.f186 a_w155q S_w155q.ps S_w155q.rs x = p_w155q n x := by kernel_rfl
theorem ok_w155q : EnvOK Tryz.prog G_w155q := envOK_cons hm hT ok_w154q Tryz.func186 (by kernel_rfl) hBB fun x r hr => ⟨FU,(e_w155q FU x).trans hr⟩
theorem e_w156q (n : Nat) (x) : afun G_w155q T BB 0 n Tryz.f91 a_w156q S_w156q.ps S_w156q.rs x = p_w156q n x := by kernel_rfl
theorem ok_w156q : EnvOK Tryz.prog G_w156q := envOK_cons hm hT ok_w155q Tryz.func91 (by kernel_rfl) hBB fun x r hr => ⟨FU,(e_w156q FU x).trans hr⟩
theorem e_w157q (n : Nat) (x) : afun G_w156q T BB 2 n Tryz.f21 a_w157q S_w157q.ps S_w157q.rs x = p_w157q n x := by kernel_rfl
theorem ok_w157q : EnvOK Tryz.prog G_w157q := envOK_cons hm hT ok_w156q Tryz.func21 (by kernel_rfl) hBB fun x r hr => ⟨FU,(e_w157q FU x).trans hr⟩
theorem e_w158q (n : Nat) (x) : afun G_w157q T BB 0 n Tryz.f382 a_w158q S_w158q.ps S_w158q.rs x = p_w158q n x := by kernel_rfl
theorem ok_w158q : EnvOK Tryz.prog G_w158q := envOK_cons hm hT ok_w157q Tryz.func382 (by kernel_rfl) hBB fun x r hr => ⟨FU,(e_w158q FU x).trans hr⟩
theorem e_w159q (n : Nat) (x) : afun G_w158q T BB 0 n Tryz.f302 a_w159q S_w159q.ps S_w159q.rs x = p_w159q n x := by kernel_rfl
theorem ok_w159q : EnvOK Tryz.prog G_w159q := envOK_cons hm hT ok_w158q Tryz.func302 (by kernel_rfl) hBB fun x r hr => ⟨FU,(e_w159q FU x).trans hr⟩
theorem e_w160q (n : Nat) (x) : afun G_w159q T BB 0 n Tryz.f187 a_w160q S_w160q.ps S_w160q.rs x = p_w160q n x := by kernel_rfl
theorem ok_w160q : EnvOK Tryz.prog G_w160q := envOK_cons hm hT ok_w159q Tryz.func187 (by kernel_rfl) hBB fun x r hr => ⟨FU,(e_w160q FU x).trans hr⟩
theorem e_w161q (n : Nat) (x) : afun G_w160q T BB 0 n Tryz.f92 a_w161q S_w161q.ps S_w161q.rs x = p_w161q n x := by kernel_rfl
theorem ok_w161q : EnvOK Tryz.prog G_w161q := envOK_cons hm hT ok_w160q Tryz.func92 (by kernel_rfl) hBB fun x r hr => ⟨FU,(e_w161q FU x).trans hr⟩
theorem e_w162q (n : Nat) (x) : afun G_w161q T BB 0 n Tryz.f383 a_w162q S_w162q.ps S_w162q.rs x = p_w162q n x := by kernel_rfl
theorem ok_w162q : EnvOK Tryz.prog G_w162q := envOK_cons hm hT ok_w161q Tryz.func383 (by kernel_rfl) hBB fun x r hr => ⟨FU,(e_w162q FU x).trans hr⟩
theorem e_w163q (n : Nat) (x) : afun G_w162q T BB 0 n Tryz.f303 a_w163q S_w163q.ps S_w163q.rs x = p_w163q n x := by kernel_rfl
theorem ok_w163q : EnvOK Tryz.prog G_w163q := envOK_cons hm hT ok_w162q Tryz.func303 (by kernel_rfl) hBB fun x r hr => ⟨FU,(e_w163q FU x).trans hr⟩
theorem e_w164q (n : Nat) (x) : afun G_w163q T BB 0 n Tryz.f384 a_w164q S_w164q.ps S_w164q.rs x = p_w164q n x := by kernel_rfl
theorem ok_w164q : EnvOK Tryz.prog G_w164q := envOK_cons hm hT ok_w163q Tryz.func384 (by kernel_rfl) hBB fun x r hr => ⟨FU,(e_w164q FU x).trans hr⟩
theorem e_w165q (n : Nat) (x) : afun G_w164q T BB 0 n Tryz.f304 a_w165q S_w165q.ps S_w165q.rs x = p_w165q n x := by kernel_rfl
theorem ok_w165q : EnvOK Tryz.prog G_w165q := envOK_cons hm hT ok_w164q Tryz.func304 (by kernel_rfl) hBB fun x r hr => ⟨FU,(e_w165q FU x).trans hr⟩
theorem e_w166q (n : Nat) (x) : afun G_w165q T BB 0 n Tryz.f305 a_w166q S_w166q.ps S_w166q.rs x = p_w166q n x := by kernel_rfl
theorem ok_w166q : EnvOK Tryz.prog G_w166q := envOK_cons hm hT ok_w165q Tryz.func305 (by kernel_rfl) hBB fun x r hr => ⟨FU,(e_w166q FU x).trans hr⟩
theorem e_w167q (n : Nat) (x) : afun G_w166q T BB 0 n Tryz.f188 a_w167q S_w167q.ps S_w167q.rs x = p_w167q n x := by kernel_rfl
theorem ok_w167q : EnvOK Tryz.prog G_w167q := envOK_cons hm hT ok_w166q Tryz.func188 (by kernel_rfl) hBB fun x r hr => ⟨FU,(e_w167q FU x).trans hr⟩
theorem e_w168q (n : Nat) (x) : afun G_w167q T BB 0 n Tryz.f93 a_w168q S_w168q.ps S_w168q.rs x = p_w168q n x := by kernel_rfl
theorem ok_w168q : EnvOK Tryz.prog G_w168q := envOK_cons hm hT ok_w167q Tryz.func93 (by kernel_rfl) hBB fun x r hr => ⟨FU,(e_w168q FU x).trans hr⟩
theorem e_w169q (n : Nat) (x) : afun G_w168q T BB 0 n Tryz.f309 a_w169q S_w169q.ps S_w169q.rs x = p_w169q n x := by kernel_rfl
theorem ok_w169q : EnvOK Tryz.prog G_w169q := envOK_cons hm hT ok_w168q Tryz.func309 (by kernel_rfl) hBB fun x r hr => ⟨FU,(e_w169q FU x).trans hr⟩
theorem e_w170q (n : Nat) (x) : afun G_w169q T BB 0 n Tryz.f432 a_w170q S_w170q.ps S_w170q.rs x = p_w170q n x := by kernel_rfl
theorem ok_w170q : EnvOK Tryz.prog G_w170q := envOK_cons hm hT ok_w169q Tryz.func432 (by kernel_rfl) hBB fun x r hr => ⟨FU,(e_w170q FU x).trans hr⟩
theorem e_w171q (n : Nat) (x) : afun G_w170q T BB 0 n Tryz.f385 a_w171q S_w171q.ps S_w171q.rs x = p_w171q n x := by kernel_rfl
theorem ok_w171q : EnvOK Tryz.prog G_w171q := envOK_cons hm hT ok_w170q Tryz.func385 (by kernel_rfl) hBB fun x r hr => ⟨FU,(e_w171q FU x).trans hr⟩
theorem e_w172q (n : Nat) (x) : afun G_w171q T BB 0 n Tryz.f306 a_w172q S_w172q.ps S_w172q.rs x = p_w172q n x := by kernel_rfl
theorem ok_w172q : EnvOK Tryz.prog G_w172q := envOK_cons hm hT ok_w171q Tryz.func306 (by kernel_rfl) hBB fun x r hr => ⟨FU,(e_w172q FU x).trans hr⟩
theorem e_w173q (n : Nat) (x) : afun G_w172q T BB 0 n Tryz.f189 a_w173q S_w173q.ps S_w173q.rs x = p_w173q n x := by kernel_rfl
theorem ok_w173q : EnvOK Tryz.prog G_w173q := envOK_cons hm hT ok_w172q Tryz.func189 (by kernel_rfl) hBB fun x r hr => ⟨FU,(e_w173q FU x).trans hr⟩
theorem e_w174q (n : Nat) (x) : afun G_w173q T BB 0 n Tryz.f94 a_w174q S_w174q.ps S_w174q.rs x = p_w174q n x := by kernel_rfl
theorem ok_w174q : EnvOK Tryz.prog G_w174q := envOK_cons hm hT ok_w173q Tryz.func94 (by kernel_rfl) hBB fun x r hr => ⟨FU,(e_w174q FU x).trans hr⟩
theorem e_w175q (n : Nat) (x) : afun G_w174q T BB 0 n Tryz.f386 a_w175q S_w175q.ps S_w175q.rs x = p_w175q n x := by kernel_rfl
theorem ok_w175q : EnvOK Tryz.prog G_w175q := envOK_cons hm hT ok_w174q Tryz.func386 (by kernel_rfl) hBB fun x r hr => ⟨FU,(e_w175q FU x).trans hr⟩
theorem e_w176q (n : Nat) (x) : afun G_w175q T BB 0 n Tryz.f307 a_w176q S_w176q.ps S_w176q.rs x = p_w176q n x := by kernel_rfl
theorem ok_w176q : EnvOK Tryz.prog G_w176q := envOK_cons hm hT ok_w175q Tryz.func307 (by kernel_rfl) hBB fun x r hr => ⟨FU,(e_w176q FU x).trans hr⟩
theorem e_w177q (n : Nat) (x) : afun G_w176q T BB 0 n Tryz.f387 a_w177q S_w177q.ps S_w177q.rs x = p_w177q n x := by kernel_rfl
theorem ok_w177q : EnvOK Tryz.prog G_w177q := envOK_cons hm hT ok_w176q Tryz.func387 (by kernel_rfl) hBB fun x r hr => ⟨FU,(e_w177q FU x).trans hr⟩
theorem e_w178q (n : Nat) (x) : afun G_w177q T BB 0 n Tryz.f308 a_w178q S_w178q.ps S_w178q.rs x = p_w178q n x := by kernel_rfl
theorem ok_w178q : EnvOK Tryz.prog G_w178q := envOK_cons hm hT ok_w177q Tryz.func308 (by kernel_rfl) hBB fun x r hr => ⟨FU,(e_w178q FU x).trans hr⟩
theorem e_w179q (n : Nat) (x) : afun G_w178q T BB 0 n Tryz.f190 a_w179q S_w179q.ps S_w179q.rs x = p_w179q n x := by kernel_rfl
theorem ok_w179q : EnvOK Tryz.prog G_w179q := envOK_cons hm hT ok_w178q Tryz.func190 (by kernel_rfl) hBB fun x r hr => ⟨FU,(e_w179q FU x).trans hr⟩
theorem e_w180q (n : Nat) (x) : afun G_w179q T BB 0 n Tryz.f95 a_w180q S_w180q.ps S_w180q.rs x = p_w180q n x := by kernel_rfl
theorem ok_w180q : EnvOK Tryz.prog G_w180q := envOK_cons hm hT ok_w179q Tryz.func95 (by kernel_rfl) hBB fun x r hr => ⟨FU,(e_w180q FU x).trans hr⟩
theorem e_w181q (n : Nat) (x) : afun G_w180q T BB 0 n Tryz.f191 a_w181q S_w181q.ps S_w181q.rs x = p_w181q n x := by kernel_rfl
theorem ok_w181q : EnvOK Tryz.prog G_w181q := envOK_cons hm hT ok_w180q Tryz.func191 (by kernel_rfl) hBB fun x r hr => ⟨FU,(e_w181q FU x).trans hr⟩
theorem e_w182q (n : Nat) (x) : afun G_w181q T BB 0 n Tryz.f96 a_w182q S_w182q.ps S_w182q.rs x = p_w182q n x := by kernel_rfl
theorem ok_w182q : EnvOK Tryz.prog G_w182q := envOK_cons hm hT ok_w181q Tryz.func96 (by kernel_rfl) hBB fun x r hr => ⟨FU,(e_w182q FU x).trans hr⟩
theorem e_w183q (n : Nat) (x) : afun G_w182q T BB 0 n Tryz.f22 a_w183q S_w183q.ps S_w183q.rs x = p_w183q n x := by kernel_rfl
theorem ok_w183q : EnvOK Tryz.prog G_w183q := envOK_cons hm hT ok_w182q Tryz.func22 (by kernel_rfl) hBB fun x r hr => ⟨FU,(e_w183q FU x).trans hr⟩
theorem e_w184q (n : Nat) (x) : afun G_w183q T BB 0 n Tryz.f5 a_w184q S_w184q.ps S_w184q.rs x = p_w184q n x := by kernel_rfl
theorem ok_w184q : EnvOK Tryz.prog G_w184q := envOK_cons hm hT ok_w183q Tryz.func5 (by kernel_rfl) hBB fun x r hr => ⟨FU,(e_w184q FU x).trans hr⟩
end Go.RvP
