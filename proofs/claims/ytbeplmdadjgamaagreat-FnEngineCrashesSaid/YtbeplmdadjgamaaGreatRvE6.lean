/- Each function of the program is as its plain function says, for FnEngineCrashes. No condition. -/
import Derived.Test.YtbeplmdadjgamaaGreatRvP6
import Derived.Test.YtbeplmdadjgamaaGreatProg
import Derived.KernelRfl
import Derived.StillTailTactics
import Derived.LoopN
import Derived.RegionCalls
import Derived.WalkKit
namespace Go.RvP
open Go Go.Rv Go.Proofs Go.Shelf Go.RowKit Go.Lib Go.Sort
set_option maxRecDepth 100000
theorem hm : Tryz.prog.follows .mixedOrders = true := by kernel_rfl
theorem hT : TabOK Tryz.prog T := tabOK_of (by kernel_rfl)
noncomputable def BB : Bodies := [(99, Tryz.f99), (100, Tryz.f100), (110, Tryz.f110), (194, Tryz.f194), (198, Tryz.f198), (216, Tryz.f216), (287, Tryz.f287), (288, Tryz.f288), (333, Tryz.f333)]
theorem hBB : BodyOK Tryz.prog BB := (bodyOK_cons Tryz.func99 (by kernel_rfl) (bodyOK_cons Tryz.func100 (by kernel_rfl) (bodyOK_cons Tryz.func110 (by kernel_rfl) (bodyOK_cons Tryz.func194 (by kernel_rfl) (bodyOK_cons Tryz.func198 (by kernel_rfl) (bodyOK_cons Tryz.func216 (by kernel_rfl) (bodyOK_cons Tryz.func287 (by kernel_rfl) (bodyOK_cons Tryz.func288 (by kernel_rfl) (bodyOK_cons Tryz.func333 (by kernel_rfl) bodyOK_nil)))))))))
theorem e_w0q (n : Nat) (x) : afun [] T BB 0 n Tryz.f33 a_w0q S_w0q.ps S_w0q.rs x = p_w0q n x := by kernel_rfl
theorem ok_w0q : EnvOK Tryz.prog G_w0q := envOK_cons hm hT envOK_nil Tryz.func33 (by kernel_rfl) hBB fun x r hr => ⟨FU, (e_w0q FU x).trans hr⟩
theorem e_w1q (n : Nat) (x) : afun G_w0q T BB 0 n Tryz.f63 a_w1q S_w1q.ps S_w1q.rs x = p_w1q n x := by kernel_rfl
theorem ok_w1q : EnvOK Tryz.prog G_w1q := envOK_cons hm hT ok_w0q Tryz.func63 (by kernel_rfl) hBB fun x r hr => ⟨FU, (e_w1q FU x).trans hr⟩
theorem e_w2q (n : Nat) (x) : afun G_w1q T BB 0 n Tryz.f208 a_w2q S_w2q.ps S_w2q.rs x = p_w2q n x := by kernel_rfl
theorem ok_w2q : EnvOK Tryz.prog G_w2q := envOK_cons hm hT ok_w1q Tryz.func208 (by kernel_rfl) hBB fun x r hr => ⟨FU, (e_w2q FU x).trans hr⟩
theorem e_w3q (n : Nat) (x) : afun G_w2q T BB 0 n Tryz.f113 a_w3q S_w3q.ps S_w3q.rs x = p_w3q n x := by kernel_rfl
theorem ok_w3q : EnvOK Tryz.prog G_w3q := envOK_cons hm hT ok_w2q Tryz.func113 (by kernel_rfl) hBB fun x r hr => ⟨FU, (e_w3q FU x).trans hr⟩
theorem e_w4q (n : Nat) (x) : afun G_w3q T BB 0 n Tryz.f83 a_w4q S_w4q.ps S_w4q.rs x = p_w4q n x := by kernel_rfl
theorem ok_w4q : EnvOK Tryz.prog G_w4q := envOK_cons hm hT ok_w3q Tryz.func83 (by kernel_rfl) hBB fun x r hr => ⟨FU, (e_w4q FU x).trans hr⟩
theorem e_w5q (n : Nat) (x) : afun G_w4q T BB 0 n Tryz.f186 a_w5q S_w5q.ps S_w5q.rs x = p_w5q n x := by kernel_rfl
theorem ok_w5q : EnvOK Tryz.prog G_w5q := envOK_cons hm hT ok_w4q Tryz.func186 (by kernel_rfl) hBB fun x r hr => ⟨FU, (e_w5q FU x).trans hr⟩
theorem e_w6q (n : Nat) (x) : afun G_w5q T BB 0 n Tryz.f187 a_w6q S_w6q.ps S_w6q.rs x = p_w6q n x := by kernel_rfl
theorem ok_w6q : EnvOK Tryz.prog G_w6q := envOK_cons hm hT ok_w5q Tryz.func187 (by kernel_rfl) hBB fun x r hr => ⟨FU, (e_w6q FU x).trans hr⟩
theorem e_w7q (n : Nat) (x) : afun G_w6q T BB 0 n Tryz.f84 a_w7q S_w7q.ps S_w7q.rs x = p_w7q n x := by kernel_rfl
theorem ok_w7q : EnvOK Tryz.prog G_w7q := envOK_cons hm hT ok_w6q Tryz.func84 (by kernel_rfl) hBB fun x r hr => ⟨FU, (e_w7q FU x).trans hr⟩
theorem e_w8q (n : Nat) (x) : afun G_w7q T BB 0 n Tryz.f85 a_w8q S_w8q.ps S_w8q.rs x = p_w8q n x := by kernel_rfl
theorem ok_w8q : EnvOK Tryz.prog G_w8q := envOK_cons hm hT ok_w7q Tryz.func85 (by kernel_rfl) hBB fun x r hr => ⟨FU, (e_w8q FU x).trans hr⟩
theorem e_w9q (n : Nat) (x) : afun G_w8q T BB 0 n Tryz.f132 a_w9q S_w9q.ps S_w9q.rs x = p_w9q n x := by kernel_rfl
theorem ok_w9q : EnvOK Tryz.prog G_w9q := envOK_cons hm hT ok_w8q Tryz.func132 (by kernel_rfl) hBB fun x r hr => ⟨FU, (e_w9q FU x).trans hr⟩
theorem e_w10q (n : Nat) (x) : afun G_w9q T BB 0 n Tryz.f268 a_w10q S_w10q.ps S_w10q.rs x = p_w10q n x := by kernel_rfl
theorem ok_w10q : EnvOK Tryz.prog G_w10q := envOK_cons hm hT ok_w9q Tryz.func268 (by kernel_rfl) hBB fun x r hr => ⟨FU, (e_w10q FU x).trans hr⟩
theorem e_w11q (n : Nat) (x) : afun G_w10q T BB 0 n Tryz.f188 a_w11q S_w11q.ps S_w11q.rs x = p_w11q n x := by kernel_rfl
theorem ok_w11q : EnvOK Tryz.prog G_w11q := envOK_cons hm hT ok_w10q Tryz.func188 (by kernel_rfl) hBB fun x r hr => ⟨FU, (e_w11q FU x).trans hr⟩
theorem e_w12q (n : Nat) (x) : afun G_w11q T BB 0 n Tryz.f269 a_w12q S_w12q.ps S_w12q.rs x = p_w12q n x := by kernel_rfl
theorem ok_w12q : EnvOK Tryz.prog G_w12q := envOK_cons hm hT ok_w11q Tryz.func269 (by kernel_rfl) hBB fun x r hr => ⟨FU, (e_w12q FU x).trans hr⟩
theorem e_w13q (n : Nat) (x) : afun G_w12q T BB 0 n Tryz.f270 a_w13q S_w13q.ps S_w13q.rs x = p_w13q n x := by kernel_rfl
theorem ok_w13q : EnvOK Tryz.prog G_w13q := envOK_cons hm hT ok_w12q Tryz.func270 (by kernel_rfl) hBB fun x r hr => ⟨FU, (e_w13q FU x).trans hr⟩
theorem e_w14q (n : Nat) (x) : afun G_w13q T BB 0 n Tryz.f226 a_w14q S_w14q.ps S_w14q.rs x = p_w14q n x := by kernel_rfl
theorem ok_w14q : EnvOK Tryz.prog G_w14q := envOK_cons hm hT ok_w13q Tryz.func226 (by kernel_rfl) hBB fun x r hr => ⟨FU, (e_w14q FU x).trans hr⟩
theorem e_w15q (n : Nat) (x) : afun G_w14q T BB 0 n Tryz.f227 a_w15q S_w15q.ps S_w15q.rs x = p_w15q n x := by kernel_rfl
theorem ok_w15q : EnvOK Tryz.prog G_w15q := envOK_cons hm hT ok_w14q Tryz.func227 (by kernel_rfl) hBB fun x r hr => ⟨FU, (e_w15q FU x).trans hr⟩
theorem e_w16q (n : Nat) (x) : afun G_w15q T BB 0 n Tryz.f131 a_w16q S_w16q.ps S_w16q.rs x = p_w16q n x := by kernel_rfl
theorem ok_w16q : EnvOK Tryz.prog G_w16q := envOK_cons hm hT ok_w15q Tryz.func131 (by kernel_rfl) hBB fun x r hr => ⟨FU, (e_w16q FU x).trans hr⟩
theorem e_w17q (n : Nat) (x) : afun G_w16q T BB 0 n Tryz.f129 a_w17q S_w17q.ps S_w17q.rs x = p_w17q n x := by kernel_rfl
theorem ok_w17q : EnvOK Tryz.prog G_w17q := envOK_cons hm hT ok_w16q Tryz.func129 (by kernel_rfl) hBB fun x r hr => ⟨FU, (e_w17q FU x).trans hr⟩
theorem e_w18q (n : Nat) (x) : afun G_w17q T BB 0 n Tryz.f271 a_w18q S_w18q.ps S_w18q.rs x = p_w18q n x := by kernel_rfl
theorem ok_w18q : EnvOK Tryz.prog G_w18q := envOK_cons hm hT ok_w17q Tryz.func271 (by kernel_rfl) hBB fun x r hr => ⟨FU, (e_w18q FU x).trans hr⟩
theorem e_w19q (n : Nat) (x) : afun G_w18q T BB 0 n Tryz.f189 a_w19q S_w19q.ps S_w19q.rs x = p_w19q n x := by kernel_rfl
theorem ok_w19q : EnvOK Tryz.prog G_w19q := envOK_cons hm hT ok_w18q Tryz.func189 (by kernel_rfl) hBB fun x r hr => ⟨FU, (e_w19q FU x).trans hr⟩
theorem e_w20q (n : Nat) (x) : afun G_w19q T BB 0 n Tryz.f133 a_w20q S_w20q.ps S_w20q.rs x = p_w20q n x := by kernel_rfl
theorem ok_w20q : EnvOK Tryz.prog G_w20q := envOK_cons hm hT ok_w19q Tryz.func133 (by kernel_rfl) hBB fun x r hr => ⟨FU, (e_w20q FU x).trans hr⟩
theorem e_w21q (n : Nat) (x) : afun G_w20q T BB 0 n Tryz.f134 a_w21q S_w21q.ps S_w21q.rs x = p_w21q n x := by kernel_rfl
theorem ok_w21q : EnvOK Tryz.prog G_w21q := envOK_cons hm hT ok_w20q Tryz.func134 (by kernel_rfl) hBB fun x r hr => ⟨FU, (e_w21q FU x).trans hr⟩
theorem e_w22q (n : Nat) (x) : afun G_w21q T BB 0 n Tryz.f86 a_w22q S_w22q.ps S_w22q.rs x = p_w22q n x := by kernel_rfl
theorem ok_w22q : EnvOK Tryz.prog G_w22q := envOK_cons hm hT ok_w21q Tryz.func86 (by kernel_rfl) hBB fun x r hr => ⟨FU, (e_w22q FU x).trans hr⟩
theorem e_w23q (n : Nat) (x) : afun G_w22q T BB 0 n Tryz.f87 a_w23q S_w23q.ps S_w23q.rs x = p_w23q n x := by kernel_rfl
theorem ok_w23q : EnvOK Tryz.prog G_w23q := envOK_cons hm hT ok_w22q Tryz.func87 (by kernel_rfl) hBB fun x r hr => ⟨FU, (e_w23q FU x).trans hr⟩
theorem e_w24q (n : Nat) (x) : afun G_w23q T BB 0 n Tryz.f23 a_w24q S_w24q.ps S_w24q.rs x = p_w24q n x := by kernel_rfl
theorem ok_w24q : EnvOK Tryz.prog G_w24q := envOK_cons hm hT ok_w23q Tryz.func23 (by kernel_rfl) hBB fun x r hr => ⟨FU, (e_w24q FU x).trans hr⟩
theorem e_w25q (n : Nat) (x) : afun G_w24q T BB 0 n Tryz.f201 a_w25q S_w25q.ps S_w25q.rs x = p_w25q n x := by kernel_rfl
theorem ok_w25q : EnvOK Tryz.prog G_w25q := envOK_cons hm hT ok_w24q Tryz.func201 (by kernel_rfl) hBB fun x r hr => ⟨FU, (e_w25q FU x).trans hr⟩
theorem e_w26q (n : Nat) (x) : afun G_w25q T BB 0 n Tryz.f104 a_w26q S_w26q.ps S_w26q.rs x = p_w26q n x := by kernel_rfl
theorem ok_w26q : EnvOK Tryz.prog G_w26q := envOK_cons hm hT ok_w25q Tryz.func104 (by kernel_rfl) hBB fun x r hr => ⟨FU, (e_w26q FU x).trans hr⟩
theorem e_w27q (n : Nat) (x) : afun G_w26q T BB 0 n Tryz.f27 a_w27q S_w27q.ps S_w27q.rs x = p_w27q n x := by kernel_rfl
theorem ok_w27q : EnvOK Tryz.prog G_w27q := envOK_cons hm hT ok_w26q Tryz.func27 (by kernel_rfl) hBB fun x r hr => ⟨FU, (e_w27q FU x).trans hr⟩
theorem e_w28q (n : Nat) (x) : afun G_w27q T BB 0 n Tryz.f224 a_w28q S_w28q.ps S_w28q.rs x = p_w28q n x := by kernel_rfl
theorem ok_w28q : EnvOK Tryz.prog G_w28q := envOK_cons hm hT ok_w27q Tryz.func224 (by kernel_rfl) hBB fun x r hr => ⟨FU, (e_w28q FU x).trans hr⟩
theorem e_w29q (n : Nat) (x) : afun G_w28q T BB 0 n Tryz.f125 a_w29q S_w29q.ps S_w29q.rs x = p_w29q n x := by kernel_rfl
theorem ok_w29q : EnvOK Tryz.prog G_w29q := envOK_cons hm hT ok_w28q Tryz.func125 (by kernel_rfl) hBB fun x r hr => ⟨FU, (e_w29q FU x).trans hr⟩
theorem e_w30q (n : Nat) (x) : afun G_w29q T BB 0 n Tryz.f143 a_w30q S_w30q.ps S_w30q.rs x = p_w30q n x := by kernel_rfl
theorem ok_w30q : EnvOK Tryz.prog G_w30q := envOK_cons hm hT ok_w29q Tryz.func143 (by kernel_rfl) hBB fun x r hr => ⟨FU, (e_w30q FU x).trans hr⟩
theorem e_w31q (n : Nat) (x) : afun G_w30q T BB 0 n Tryz.f56 a_w31q S_w31q.ps S_w31q.rs x = p_w31q n x := by kernel_rfl
theorem ok_w31q : EnvOK Tryz.prog G_w31q := envOK_cons hm hT ok_w30q Tryz.func56 (by kernel_rfl) hBB fun x r hr => ⟨FU, (e_w31q FU x).trans hr⟩
theorem e_w32q (n : Nat) (x) : afun G_w31q T BB 0 n Tryz.f292 a_w32q S_w32q.ps S_w32q.rs x = p_w32q n x := by kernel_rfl
theorem ok_w32q : EnvOK Tryz.prog G_w32q := envOK_cons hm hT ok_w31q Tryz.func292 (by kernel_rfl) hBB fun x r hr => ⟨FU, (e_w32q FU x).trans hr⟩
theorem e_w33q (n : Nat) (x) : afun G_w32q T BB 0 n Tryz.f140 a_w33q S_w33q.ps S_w33q.rs x = p_w33q n x := by kernel_rfl
theorem ok_w33q : EnvOK Tryz.prog G_w33q := envOK_cons hm hT ok_w32q Tryz.func140 (by kernel_rfl) hBB fun x r hr => ⟨FU, (e_w33q FU x).trans hr⟩
theorem e_w34q (n : Nat) (x) : afun G_w33q T BB 0 n Tryz.f232 a_w34q S_w34q.ps S_w34q.rs x = p_w34q n x := by kernel_rfl
theorem ok_w34q : EnvOK Tryz.prog G_w34q := envOK_cons hm hT ok_w33q Tryz.func232 (by kernel_rfl) hBB fun x r hr => ⟨FU, (e_w34q FU x).trans hr⟩
theorem e_w35q (n : Nat) (x) : afun G_w34q T BB 0 n Tryz.f139 a_w35q S_w35q.ps S_w35q.rs x = p_w35q n x := by kernel_rfl
theorem ok_w35q : EnvOK Tryz.prog G_w35q := envOK_cons hm hT ok_w34q Tryz.func139 (by kernel_rfl) hBB fun x r hr => ⟨FU, (e_w35q FU x).trans hr⟩
theorem e_w36q (n : Nat) (x) : afun G_w35q T BB 0 n Tryz.f285 a_w36q S_w36q.ps S_w36q.rs x = p_w36q n x := by kernel_rfl
theorem ok_w36q : EnvOK Tryz.prog G_w36q := envOK_cons hm hT ok_w35q Tryz.func285 (by kernel_rfl) hBB fun x r hr => ⟨FU, (e_w36q FU x).trans hr⟩
theorem e_w37q (n : Nat) (x) : afun G_w36q T BB 0 n Tryz.f225 a_w37q S_w37q.ps S_w37q.rs x = p_w37q n x := by kernel_rfl
theorem ok_w37q : EnvOK Tryz.prog G_w37q := envOK_cons hm hT ok_w36q Tryz.func225 (by kernel_rfl) hBB fun x r hr => ⟨FU, (e_w37q FU x).trans hr⟩
theorem e_w38q (n : Nat) (x) : afun G_w37q T BB 0 n Tryz.f130 a_w38q S_w38q.ps S_w38q.rs x = p_w38q n x := by kernel_rfl
theorem ok_w38q : EnvOK Tryz.prog G_w38q := envOK_cons hm hT ok_w37q Tryz.func130 (by kernel_rfl) hBB fun x r hr => ⟨FU, (e_w38q FU x).trans hr⟩
theorem e_w39q (n : Nat) (x) : afun G_w38q T BB 0 n Tryz.f48 a_w39q S_w39q.ps S_w39q.rs x = p_w39q n x := by kernel_rfl
theorem ok_w39q : EnvOK Tryz.prog G_w39q := envOK_cons hm hT ok_w38q Tryz.func48 (by kernel_rfl) hBB fun x r hr => ⟨FU, (e_w39q FU x).trans hr⟩
theorem e_w40q (n : Nat) (x) : afun G_w39q T BB 0 n Tryz.f112 a_w40q S_w40q.ps S_w40q.rs x = p_w40q n x := by kernel_rfl
theorem ok_w40q : EnvOK Tryz.prog G_w40q := envOK_cons hm hT ok_w39q Tryz.func112 (by kernel_rfl) hBB fun x r hr => ⟨FU, (e_w40q FU x).trans hr⟩
theorem e_w41q (n : Nat) (x) : afun G_w40q T BB 0 n Tryz.f278 a_w41q S_w41q.ps S_w41q.rs x = p_w41q n x := by kernel_rfl
theorem ok_w41q : EnvOK Tryz.prog G_w41q := envOK_cons hm hT ok_w40q Tryz.func278 (by kernel_rfl) hBB fun x r hr => ⟨FU, (e_w41q FU x).trans hr⟩
theorem e_w42q (n : Nat) (x) : afun G_w41q T BB 0 n Tryz.f209 a_w42q S_w42q.ps S_w42q.rs x = p_w42q n x := by kernel_rfl
theorem ok_w42q : EnvOK Tryz.prog G_w42q := envOK_cons hm hT ok_w41q Tryz.func209 (by kernel_rfl) hBB fun x r hr => ⟨FU, (e_w42q FU x).trans hr⟩
theorem e_w43q (n : Nat) (x) : afun G_w42q T BB 0 n Tryz.f279 a_w43q S_w43q.ps S_w43q.rs x = p_w43q n x := by kernel_rfl
theorem ok_w43q : EnvOK Tryz.prog G_w43q := envOK_cons hm hT ok_w42q Tryz.func279 (by kernel_rfl) hBB fun x r hr => ⟨FU, (e_w43q FU x).trans hr⟩
theorem e_w44q (n : Nat) (x) : afun G_w43q T BB 0 n Tryz.f280 a_w44q S_w44q.ps S_w44q.rs x = p_w44q n x := by kernel_rfl
theorem ok_w44q : EnvOK Tryz.prog G_w44q := envOK_cons hm hT ok_w43q Tryz.func280 (by kernel_rfl) hBB fun x r hr => ⟨FU, (e_w44q FU x).trans hr⟩
theorem e_w45q (n : Nat) (x) : afun G_w44q T BB 0 n Tryz.f210 a_w45q S_w45q.ps S_w45q.rs x = p_w45q n x := by kernel_rfl
theorem ok_w45q : EnvOK Tryz.prog G_w45q := envOK_cons hm hT ok_w44q Tryz.func210 (by kernel_rfl) hBB fun x r hr => ⟨FU, (e_w45q FU x).trans hr⟩
theorem e_w46q (n : Nat) (x) : afun G_w45q T BB 0 n Tryz.f111 a_w46q S_w46q.ps S_w46q.rs x = p_w46q n x := by kernel_rfl
theorem ok_w46q : EnvOK Tryz.prog G_w46q := envOK_cons hm hT ok_w45q Tryz.func111 (by kernel_rfl) hBB fun x r hr => ⟨FU, (e_w46q FU x).trans hr⟩
theorem e_w47q (n : Nat) (x) : afun G_w46q T BB 1 n Tryz.f34 a_w47q S_w47q.ps S_w47q.rs x = p_w47q n x := by kernel_rfl
theorem ok_w47q : EnvOK Tryz.prog G_w47q := envOK_cons hm hT ok_w46q Tryz.func34 (by kernel_rfl) hBB fun x r hr => ⟨FU, (e_w47q FU x).trans hr⟩
theorem e_w48q (n : Nat) (x) : afun G_w47q T BB 0 n Tryz.f92 a_w48q S_w48q.ps S_w48q.rs x = p_w48q n x := by kernel_rfl
theorem ok_w48q : EnvOK Tryz.prog G_w48q := envOK_cons hm hT ok_w47q Tryz.func92 (by kernel_rfl) hBB fun x r hr => ⟨FU, (e_w48q FU x).trans hr⟩
theorem e_w49q (n : Nat) (x) : afun G_w48q T BB 0 n Tryz.f195 a_w49q S_w49q.ps S_w49q.rs x = p_w49q n x := by kernel_rfl
theorem ok_w49q : EnvOK Tryz.prog G_w49q := envOK_cons hm hT ok_w48q Tryz.func195 (by kernel_rfl) hBB fun x r hr => ⟨FU, (e_w49q FU x).trans hr⟩
theorem e_w50q (n : Nat) (x) : afun G_w49q T BB 0 n Tryz.f272 a_w50q S_w50q.ps S_w50q.rs x = p_w50q n x := by kernel_rfl
theorem ok_w50q : EnvOK Tryz.prog G_w50q := envOK_cons hm hT ok_w49q Tryz.func272 (by kernel_rfl) hBB fun x r hr => ⟨FU, (e_w50q FU x).trans hr⟩
theorem e_w51q (n : Nat) (x) : afun G_w50q T BB 0 n Tryz.f96 a_w51q S_w51q.ps S_w51q.rs x = p_w51q n x := by kernel_rfl
theorem ok_w51q : EnvOK Tryz.prog G_w51q := envOK_cons hm hT ok_w50q Tryz.func96 (by kernel_rfl) hBB fun x r hr => ⟨FU, (e_w51q FU x).trans hr⟩
theorem e_w52q (n : Nat) (x) : afun G_w51q T BB 0 n Tryz.f192 a_w52q S_w52q.ps S_w52q.rs x = p_w52q n x := by kernel_rfl
theorem ok_w52q : EnvOK Tryz.prog G_w52q := envOK_cons hm hT ok_w51q Tryz.func192 (by kernel_rfl) hBB fun x r hr => ⟨FU, (e_w52q FU x).trans hr⟩
def ren_w53q : Go.Shelf.Ren := ⟨fun n => if n = 213 then 322 else 343, fun n => if n = 3 then 3 else 9, fun n => n⟩
theorem lays_w53q : Go.Proofs.Lays.n213 Tryz.prog ren_w53q where
  mixed := by kernel_rfl
  f213 := by kernel_rfl
  f265 := by kernel_rfl
  t3 := by kernel_rfl
  a3 := fun _ => by kernel_rfl
  z3 := fun _ => by kernel_rfl
  v3 := fun _ => by kernel_rfl
  t9 := by kernel_rfl
  a9 := fun _ => by kernel_rfl
  z9 := fun _ => by kernel_rfl
  v9 := fun _ => by kernel_rfl
theorem ok_w53q : EnvOK Tryz.prog G_w53q := envOK_sound ok_w52q ⟨_, Tryz.func322, by kernel_rfl, by kernel_rfl⟩ (sound_cmp fun a b w => Any.bytealg_CompareString lays_w53q a b w)
theorem e_w54q (n : Nat) (x) : afun G_w53q T BB 0 n Tryz.f274 a_w54q S_w54q.ps S_w54q.rs x = p_w54q n x := by kernel_rfl
theorem ok_w54q : EnvOK Tryz.prog G_w54q := envOK_cons hm hT ok_w53q Tryz.func274 (by kernel_rfl) hBB fun x r hr => ⟨FU, (e_w54q FU x).trans hr⟩
theorem e_w55q (n : Nat) (x) : afun G_w54q T BB 0 n Tryz.f316 a_w55q S_w55q.ps S_w55q.rs x = p_w55q n x := by kernel_rfl
theorem ok_w55q : EnvOK Tryz.prog G_w55q := envOK_cons hm hT ok_w54q Tryz.func316 (by kernel_rfl) hBB fun x r hr => ⟨FU, (e_w55q FU x).trans hr⟩
theorem e_w56q (n : Nat) (x) : afun G_w55q T BB 0 n Tryz.f261 a_w56q S_w56q.ps S_w56q.rs x = p_w56q n x := by kernel_rfl
theorem ok_w56q : EnvOK Tryz.prog G_w56q := envOK_cons hm hT ok_w55q Tryz.func261 (by kernel_rfl) hBB fun x r hr => ⟨FU, (e_w56q FU x).trans hr⟩
theorem e_w57q (n : Nat) (x) : afun G_w56q T BB 0 n Tryz.f273 a_w57q S_w57q.ps S_w57q.rs x = p_w57q n x := by kernel_rfl
theorem ok_w57q : EnvOK Tryz.prog G_w57q := envOK_cons hm hT ok_w56q Tryz.func273 (by kernel_rfl) hBB fun x r hr => ⟨FU, (e_w57q FU x).trans hr⟩
theorem e_w58q (n : Nat) (x) : afun G_w57q T BB 0 n Tryz.f193 a_w58q S_w58q.ps S_w58q.rs x = p_w58q n x := by kernel_rfl
theorem ok_w58q : EnvOK Tryz.prog G_w58q := envOK_cons hm hT ok_w57q Tryz.func193 (by kernel_rfl) hBB fun x r hr => ⟨FU, (e_w58q FU x).trans hr⟩
theorem e_w59q (n : Nat) (x) : afun G_w58q T BB 0 n Tryz.f93 a_w59q S_w59q.ps S_w59q.rs x = p_w59q n x := by kernel_rfl
theorem ok_w59q : EnvOK Tryz.prog G_w59q := envOK_cons hm hT ok_w58q Tryz.func93 (by kernel_rfl) hBB fun x r hr => ⟨FU, (e_w59q FU x).trans hr⟩
theorem e_w60q (n : Nat) (x) : afun G_w59q T BB 0 n Tryz.f91 a_w60q S_w60q.ps S_w60q.rs x = p_w60q n x := by kernel_rfl
theorem ok_w60q : EnvOK Tryz.prog G_w60q := envOK_cons hm hT ok_w59q Tryz.func91 (by kernel_rfl) hBB fun x r hr => ⟨FU, (e_w60q FU x).trans hr⟩
theorem e_w61q (n : Nat) (x) : afun G_w60q T BB 1 n Tryz.f95 a_w61q S_w61q.ps S_w61q.rs x = p_w61q n x := by kernel_rfl
theorem ok_w61q : EnvOK Tryz.prog G_w61q := envOK_cons hm hT ok_w60q Tryz.func95 (by kernel_rfl) hBB fun x r hr => ⟨FU, (e_w61q FU x).trans hr⟩
theorem e_w62q (n : Nat) (x) : afun G_w61q T BB 0 n Tryz.f94 a_w62q S_w62q.ps S_w62q.rs x = p_w62q n x := by kernel_rfl
theorem ok_w62q : EnvOK Tryz.prog G_w62q := envOK_cons hm hT ok_w61q Tryz.func94 (by kernel_rfl) hBB fun x r hr => ⟨FU, (e_w62q FU x).trans hr⟩
theorem e_w63q (n : Nat) (x) : afun G_w62q T BB 1 n Tryz.f120 a_w63q S_w63q.ps S_w63q.rs x = p_w63q n x := by kernel_rfl
theorem ok_w63q : EnvOK Tryz.prog G_w63q := envOK_cons hm hT ok_w62q Tryz.func120 (by kernel_rfl) hBB fun x r hr => ⟨FU, (e_w63q FU x).trans hr⟩
theorem e_w64q (n : Nat) (x) : afun G_w63q T BB 0 n Tryz.f282 a_w64q S_w64q.ps S_w64q.rs x = p_w64q n x := by kernel_rfl
theorem ok_w64q : EnvOK Tryz.prog G_w64q := envOK_cons hm hT ok_w63q Tryz.func282 (by kernel_rfl) hBB fun x r hr => ⟨FU, (e_w64q FU x).trans hr⟩
theorem e_w65q (n : Nat) (x) : afun G_w64q T BB 0 n Tryz.f281 a_w65q S_w65q.ps S_w65q.rs x = p_w65q n x := by kernel_rfl
theorem ok_w65q : EnvOK Tryz.prog G_w65q := envOK_cons hm hT ok_w64q Tryz.func281 (by kernel_rfl) hBB fun x r hr => ⟨FU, (e_w65q FU x).trans hr⟩
theorem e_w66q (n : Nat) (x) : afun G_w65q T BB 0 n Tryz.f220 a_w66q S_w66q.ps S_w66q.rs x = p_w66q n x := by kernel_rfl
theorem ok_w66q : EnvOK Tryz.prog G_w66q := envOK_cons hm hT ok_w65q Tryz.func220 (by kernel_rfl) hBB fun x r hr => ⟨FU, (e_w66q FU x).trans hr⟩
theorem e_w67q (n : Nat) (x) : afun G_w66q T BB 0 n Tryz.f214 a_w67q S_w67q.ps S_w67q.rs x = p_w67q n x := by kernel_rfl
theorem ok_w67q : EnvOK Tryz.prog G_w67q := envOK_cons hm hT ok_w66q Tryz.func214 (by kernel_rfl) hBB fun x r hr => ⟨FU, (e_w67q FU x).trans hr⟩
theorem e_w68q (n : Nat) (x) : afun G_w67q T BB 0 n Tryz.f215 a_w68q S_w68q.ps S_w68q.rs x = p_w68q n x := by kernel_rfl
theorem ok_w68q : EnvOK Tryz.prog G_w68q := envOK_cons hm hT ok_w67q Tryz.func215 (by kernel_rfl) hBB fun x r hr => ⟨FU, (e_w68q FU x).trans hr⟩
theorem e_w69q (n : Nat) (x) : afun G_w68q T BB 0 n Tryz.f196 a_w69q S_w69q.ps S_w69q.rs x = p_w69q n x := by kernel_rfl
theorem ok_w69q : EnvOK Tryz.prog G_w69q := envOK_cons hm hT ok_w68q Tryz.func196 (by kernel_rfl) hBB fun x r hr => ⟨FU, (e_w69q FU x).trans hr⟩
theorem e_w70q (n : Nat) (x) : afun G_w69q T BB 0 n Tryz.f119 a_w70q S_w70q.ps S_w70q.rs x = p_w70q n x := by kernel_rfl
theorem ok_w70q : EnvOK Tryz.prog G_w70q := envOK_cons hm hT ok_w69q Tryz.func119 (by kernel_rfl) hBB fun x r hr => ⟨FU, (e_w70q FU x).trans hr⟩
theorem e_w71q (n : Nat) (x) : afun G_w70q T BB 0 n Tryz.f37 a_w71q S_w71q.ps S_w71q.rs x = p_w71q n x := by kernel_rfl
theorem ok_w71q : EnvOK Tryz.prog G_w71q := envOK_cons hm hT ok_w70q Tryz.func37 (by kernel_rfl) hBB fun x r hr => ⟨FU, (e_w71q FU x).trans hr⟩
theorem e_w72q (n : Nat) (x) : afun G_w71q T BB 0 n Tryz.f217 a_w72q S_w72q.ps S_w72q.rs x = p_w72q n x := by kernel_rfl
theorem ok_w72q : EnvOK Tryz.prog G_w72q := envOK_cons hm hT ok_w71q Tryz.func217 (by kernel_rfl) hBB fun x r hr => ⟨FU, (e_w72q FU x).trans hr⟩
theorem e_w73q (n : Nat) (x) : afun G_w72q T BB 0 n Tryz.f283 a_w73q S_w73q.ps S_w73q.rs x = p_w73q n x := by kernel_rfl
theorem ok_w73q : EnvOK Tryz.prog G_w73q := envOK_cons hm hT ok_w72q Tryz.func283 (by kernel_rfl) hBB fun x r hr => ⟨FU, (e_w73q FU x).trans hr⟩
theorem e_w74q (n : Nat) (x) : afun G_w73q T BB 0 n Tryz.f218 a_w74q S_w74q.ps S_w74q.rs x = p_w74q n x := by kernel_rfl
theorem ok_w74q : EnvOK Tryz.prog G_w74q := envOK_cons hm hT ok_w73q Tryz.func218 (by kernel_rfl) hBB fun x r hr => ⟨FU, (e_w74q FU x).trans hr⟩
theorem e_w75q (n : Nat) (x) : afun G_w74q T BB 0 n Tryz.f286 a_w75q S_w75q.ps S_w75q.rs x = p_w75q n x := by kernel_rfl
theorem ok_w75q : EnvOK Tryz.prog G_w75q := envOK_cons hm hT ok_w74q Tryz.func286 (by kernel_rfl) hBB fun x r hr => ⟨FU, (e_w75q FU x).trans hr⟩
theorem e_w76q (n : Nat) (x) : afun G_w75q T BB 0 n Tryz.f221 a_w76q S_w76q.ps S_w76q.rs x = p_w76q n x := by kernel_rfl
theorem ok_w76q : EnvOK Tryz.prog G_w76q := envOK_cons hm hT ok_w75q Tryz.func221 (by kernel_rfl) hBB fun x r hr => ⟨FU, (e_w76q FU x).trans hr⟩
theorem e_w77q (n : Nat) (x) : afun G_w76q T BB 0 n Tryz.f290 a_w77q S_w77q.ps S_w77q.rs x = p_w77q n x := by kernel_rfl
theorem ok_w77q : EnvOK Tryz.prog G_w77q := envOK_cons hm hT ok_w76q Tryz.func290 (by kernel_rfl) hBB fun x r hr => ⟨FU, (e_w77q FU x).trans hr⟩
theorem e_w78q (n : Nat) (x) : afun G_w77q T BB 0 n Tryz.f291 a_w78q S_w78q.ps S_w78q.rs x = p_w78q n x := by kernel_rfl
theorem ok_w78q : EnvOK Tryz.prog G_w78q := envOK_cons hm hT ok_w77q Tryz.func291 (by kernel_rfl) hBB fun x r hr => ⟨FU, (e_w78q FU x).trans hr⟩
theorem e_w79q (n : Nat) (x) : afun G_w78q T BB 0 n Tryz.f230 a_w79q S_w79q.ps S_w79q.rs x = p_w79q n x := by kernel_rfl
theorem ok_w79q : EnvOK Tryz.prog G_w79q := envOK_cons hm hT ok_w78q Tryz.func230 (by kernel_rfl) hBB fun x r hr => ⟨FU, (e_w79q FU x).trans hr⟩
theorem e_w80q (n : Nat) (x) : afun G_w79q T BB 3 n Tryz.f228 a_w80q S_w80q.ps S_w80q.rs x = p_w80q n x := by kernel_rfl
theorem ok_w80q : EnvOK Tryz.prog G_w80q := envOK_cons hm hT ok_w79q Tryz.func228 (by kernel_rfl) hBB fun x r hr => ⟨FU, (e_w80q FU x).trans hr⟩
theorem e_w81q (n : Nat) (x) : afun G_w80q T BB 0 n Tryz.f219 a_w81q S_w81q.ps S_w81q.rs x = p_w81q n x := by kernel_rfl
theorem ok_w81q : EnvOK Tryz.prog G_w81q := envOK_cons hm hT ok_w80q Tryz.func219 (by kernel_rfl) hBB fun x r hr => ⟨FU, (e_w81q FU x).trans hr⟩
theorem e_w82q (n : Nat) (x) : afun G_w81q T BB 0 n Tryz.f121 a_w82q S_w82q.ps S_w82q.rs x = p_w82q n x := by kernel_rfl
theorem ok_w82q : EnvOK Tryz.prog G_w82q := envOK_cons hm hT ok_w81q Tryz.func121 (by kernel_rfl) hBB fun x r hr => ⟨FU, (e_w82q FU x).trans hr⟩
theorem e_w83q (n : Nat) (x) : afun G_w82q T BB 0 n Tryz.f122 a_w83q S_w83q.ps S_w83q.rs x = p_w83q n x := by kernel_rfl
theorem ok_w83q : EnvOK Tryz.prog G_w83q := envOK_cons hm hT ok_w82q Tryz.func122 (by kernel_rfl) hBB fun x r hr => ⟨FU, (e_w83q FU x).trans hr⟩
def ren_w84q : Go.Shelf.Ren := ⟨fun n => if n = 6 then 197 else if n = 15 then 276 else if n = 14 then 275 else if n = 28 then 331 else if n = 29 then 332 else if n = 20 then 323 else if n = 21 then 324 else if n = 22 then 325 else if n = 23 then 326 else if n = 24 then 327 else if n = 25 then 328 else if n = 26 then 329 else if n = 27 then 330 else if n = 46 then 344 else if n = 47 then 345 else if n = 48 then 346 else if n = 49 then 347 else if n = 50 then 348 else if n = 57 then 361 else n, fun n => if n = 22 then 53 else if n = 24 then 78 else if n = 25 then 224 else if n = 3 then 3 else if n = 39 then 294 else if n = 0 then 0 else if n = 53 then 330 else if n = 55 then 297 else if n = 4 then 4 else if n = 46 then 324 else if n = 45 then 323 else if n = 50 then 204 else if n = 5 then 5 else if n = 9 then 9 else if n = 66 then 338 else if n = 70 then 342 else if n = 76 then 351 else if n = 77 then 352 else n, fun n => n⟩
theorem lays_w84q : Go.Proofs.SlLaysF0.n6 Tryz.prog ren_w84q where
  mixed := by kernel_rfl
  f6 := ⟨"slices.SortFunc[[]loop.example/g00203/impl.Row,loop.example/g00203/impl.Row]", by decide, Tryz.func197.trans (congrArg some (by kernel_rfl))⟩
  f14 := ⟨"slices.pdqsortCmpFunc[loop.example/g00203/impl.Row]", by decide, Tryz.func275.trans (congrArg some (by kernel_rfl))⟩
  f15 := Tryz.func276.trans (congrArg some (by kernel_rfl))
  f20 := ⟨"slices.insertionSortCmpFunc[loop.example/g00203/impl.Row]", by decide, Tryz.func323.trans (congrArg some (by kernel_rfl))⟩
  f21 := ⟨"slices.heapSortCmpFunc[loop.example/g00203/impl.Row]", by decide, Tryz.func324.trans (congrArg some (by kernel_rfl))⟩
  f22 := ⟨"slices.breakPatternsCmpFunc[loop.example/g00203/impl.Row]", by decide, Tryz.func325.trans (congrArg some (by kernel_rfl))⟩
  f23 := ⟨"slices.choosePivotCmpFunc[loop.example/g00203/impl.Row]", by decide, Tryz.func326.trans (congrArg some (by kernel_rfl))⟩
  f24 := ⟨"slices.reverseRangeCmpFunc[loop.example/g00203/impl.Row]", by decide, Tryz.func327.trans (congrArg some (by kernel_rfl))⟩
  f25 := ⟨"slices.partialInsertionSortCmpFunc[loop.example/g00203/impl.Row]", by decide, Tryz.func328.trans (congrArg some (by kernel_rfl))⟩
  f26 := ⟨"slices.partitionEqualCmpFunc[loop.example/g00203/impl.Row]", by decide, Tryz.func329.trans (congrArg some (by kernel_rfl))⟩
  f27 := ⟨"slices.partitionCmpFunc[loop.example/g00203/impl.Row]", by decide, Tryz.func330.trans (congrArg some (by kernel_rfl))⟩
  f28 := Tryz.func331.trans (congrArg some (by kernel_rfl))
  f29 := Tryz.func332.trans (congrArg some (by kernel_rfl))
  f46 := ⟨"slices.siftDownCmpFunc[loop.example/g00203/impl.Row]", by decide, Tryz.func344.trans (congrArg some (by kernel_rfl))⟩
  f47 := Tryz.func345.trans (congrArg some (by kernel_rfl))
  f48 := Tryz.func346.trans (congrArg some (by kernel_rfl))
  f49 := ⟨"slices.medianAdjacentCmpFunc[loop.example/g00203/impl.Row]", by decide, Tryz.func347.trans (congrArg some (by kernel_rfl))⟩
  f50 := ⟨"slices.medianCmpFunc[loop.example/g00203/impl.Row]", by decide, Tryz.func348.trans (congrArg some (by kernel_rfl))⟩
  f57 := ⟨"slices.order2CmpFunc[loop.example/g00203/impl.Row]", by decide, Tryz.func361.trans (congrArg some (by kernel_rfl))⟩
  t0 := Tryz.underlying0
  a0 := Tryz.isAgg0
  z0 := Tryz.sizeOf0
  v0 := Tryz.zeroValue0
  t3 := Tryz.underlying3
  a3 := Tryz.isAgg3
  z3 := Tryz.sizeOf3
  v3 := Tryz.zeroValue3
  t4 := Tryz.underlying4
  a4 := Tryz.isAgg4
  z4 := Tryz.sizeOf4
  v4 := Tryz.zeroValue4
  t5 := Tryz.underlying5
  a5 := Tryz.isAgg5
  z5 := Tryz.sizeOf5
  v5 := Tryz.zeroValue5
  t9 := Tryz.underlying9
  a9 := Tryz.isAgg9
  z9 := Tryz.sizeOf9
  v9 := Tryz.zeroValue9
  t22 := Tryz.underlying53
  a22 := Tryz.isAgg53
  z22 := Tryz.sizeOf53
  v22 := Tryz.zeroValue53
  t25 := Tryz.underlying224
  a25 := Tryz.isAgg224
  z25 := Tryz.sizeOf224
  v25 := Tryz.zeroValue224
  t39 := Tryz.underlying294
  a39 := Tryz.isAgg294
  z39 := Tryz.sizeOf294
  v39 := Tryz.zeroValue294
  t45 := Tryz.underlying323
  a45 := Tryz.isAgg323
  z45 := Tryz.sizeOf323
  v45 := Tryz.zeroValue323
  t46 := Tryz.underlying324
  a46 := Tryz.isAgg324
  z46 := Tryz.sizeOf324
  v46 := Tryz.zeroValue324
  t50 := Tryz.underlying204
  a50 := Tryz.isAgg204
  z50 := Tryz.sizeOf204
  v50 := Tryz.zeroValue204
  t53 := Tryz.underlying330
  a53 := Tryz.isAgg330
  z53 := Tryz.sizeOf330
  v53 := Tryz.zeroValue330
  t55 := Tryz.underlying297
  a55 := Tryz.isAgg297
  z55 := Tryz.sizeOf297
  v55 := Tryz.zeroValue297
  t66 := Tryz.underlying338
  a66 := Tryz.isAgg338
  z66 := Tryz.sizeOf338
  v66 := Tryz.zeroValue338
  t70 := Tryz.underlying342
  a70 := Tryz.isAgg342
  z70 := Tryz.sizeOf342
  v70 := Tryz.zeroValue342
  t76 := Tryz.underlying351
  a76 := Tryz.isAgg351
  z76 := Tryz.sizeOf351
  v76 := Tryz.zeroValue351
  t77 := Tryz.underlying352
  a77 := Tryz.isAgg352
  z77 := Tryz.sizeOf352
  v77 := Tryz.zeroValue352
set_option maxHeartbeats 1000000 in
theorem isnan_c_w84q (w : World) (x : Int) : Calls Tryz.prog 316 #[.int .i64 x] w fun e w' => e = .returned (.bool false) ∧ w' = w := by
  go_enter Tryz.func316, Tryz.ntmps316
  go_wp2_with fail
  go_ret
  exact ⟨by simp, rfl⟩
theorem cmpi_c_w84q (w : World) (x y : Int) : Calls Tryz.prog 261 #[.int .i64 x, .int .i64 y] w fun e w' => e = .returned (.int .i64 (cmpI x y)) ∧ w' = w := by
  unfold cmpI
  by_cases h1 : x < y
  · go_enter Tryz.func261, Tryz.ntmps261
    go_wp2_with (go_at_call 316; refine (isnan_c_w84q _ _).mono ?_; rintro e w' ⟨rfl, rfl⟩)
    all_goals go_ret
    all_goals simp [h1]
  · by_cases h2 : x > y
    · go_enter Tryz.func261, Tryz.ntmps261
      go_wp2_with (go_at_call 316; refine (isnan_c_w84q _ _).mono ?_; rintro e w' ⟨rfl, rfl⟩)
      all_goals go_ret
      all_goals simp [h1, h2]
    · go_enter Tryz.func261, Tryz.ntmps261
      go_wp2_with (go_at_call 316; refine (isnan_c_w84q _ _).mono ?_; rintro e w' ⟨rfl, rfl⟩)
      all_goals go_ret
      all_goals simp [h1, h2]
def ren_x_w84q : Go.Shelf.Ren := ⟨fun n => if n = 213 then 322 else 343, fun n => if n = 3 then 3 else 9, fun n => n⟩
theorem lays_x_w84q : Go.Proofs.Lays.n213 Tryz.prog ren_x_w84q where
  mixed := by kernel_rfl
  f213 := by kernel_rfl
  f265 := by kernel_rfl
  t3 := by kernel_rfl
  a3 := fun _ => by kernel_rfl
  z3 := fun _ => by kernel_rfl
  v3 := fun _ => by kernel_rfl
  t9 := by kernel_rfl
  a9 := fun _ => by kernel_rfl
  z9 := fun _ => by kernel_rfl
  v9 := fun _ => by kernel_rfl
theorem cstr_c_w84q (w : World) (a b : ByteArray) : Calls Tryz.prog 322 #[.string a, .string b] w fun e w' => e = .returned (.int .i64 (cmpB a b)) ∧ w' = w := Any.bytealg_CompareString lays_x_w84q a b w
set_option maxHeartbeats 1000000 in
theorem scmp_c_w84q (w : World) (a b : ByteArray) : Calls Tryz.prog 274 #[.string a, .string b] w fun e w' => e = .returned (.int .i64 (cmpB a b)) ∧ w' = w := by
  go_enter Tryz.func274, Tryz.ntmps274
  go_wp2_with (go_at_call 322; refine (cstr_c_w84q _ _ _).mono ?_; rintro e w' ⟨rfl, rfl⟩)
  all_goals go_ret
  all_goals simp
theorem or_c_w84q (w : World) (b : Nat) (x y : Int) (h0 : w.cell? ⟨b, 0, none⟩ = some (.int .i64 x)) (h1 : w.cell? ⟨b, 1, none⟩ = some (.int .i64 y)) : Calls Tryz.prog 273 #[.slice (some ⟨b, 0, none⟩) 2 2] w fun e w' => e = .returned (.int .i64 (orI x y)) ∧ w' = w := by
  unfold orI
  by_cases hx : x = 0
  · by_cases hy : y = 0
    · subst hx hy
      go_enter Tryz.func273, Tryz.ntmps273
      go_wp2_with fail
      refine wp_loop_rounds 3 ?_
      rw [rounds_succ]
      go_wp2_with fail
      rw [rounds_succ]
      go_wp2_with fail
      rw [rounds_succ]
      go_wp2_with fail
      go_ret
      simp
    · subst hx
      go_enter Tryz.func273, Tryz.ntmps273
      go_wp2_with fail
      refine wp_loop_rounds 3 ?_
      rw [rounds_succ]
      go_wp2_with fail
      rw [rounds_succ]
      go_wp2_with fail
      go_ret
      simp
  · go_enter Tryz.func273, Tryz.ntmps273
    go_wp2_with fail
    refine wp_loop_rounds 3 ?_
    rw [rounds_succ]
    go_wp2_with fail
    go_ret
    simp [hx]
set_option maxHeartbeats 600000 in
theorem row_c_w84q (W : World) (x y : ByteArray × (Int × (ByteArray × Bool))) : Calls Tryz.prog 193 #[.agg (encRow x).toArray, .agg (encRow y).toArray] W fun e w' => e = .returned (.int .i64 (cfRow x y)) ∧ ∃ q os', w' = Go.Sort.grow (W.drewN q) os' := by
  unfold encRow cfRow
  go_enter Tryz.func193, Tryz.ntmps193
  go_wp2_with fail
  obtain ⟨o1, ho1⟩ : ∃ o, o = Obj.cells #[Value.string x.1, Value.int IntKind.i64 x.2.1, Value.string x.2.2.1, Value.bool x.2.2.2] 78 := ⟨_, rfl⟩
  obtain ⟨o2, ho2⟩ : ∃ o, o = Obj.cells #[Value.string y.1, Value.int IntKind.i64 y.2.1, Value.string y.2.2.1, Value.bool y.2.2.2] 78 := ⟨_, rfl⟩
  rw [← ho1, ← ho2]
  have hx0 := get2a W o1 o2
  have hy0 := get2b W o1 o2
  have hW : ∃ os, (W.alloc o1).alloc o2 = Go.Sort.grow W os := ⟨_, by rw [alloc_eq_grow, alloc_eq_grow, grow_grow]⟩
  generalize (W.alloc o1).alloc o2 = W2 at hx0 hy0 hW ⊢
  rw [ho1] at hx0
  rw [ho2] at hy0
  clear ho1 ho2 o1 o2
  have cx0 : W2.cell? ⟨W.heap.size, 0, none⟩ = some (.string x.1) := cell_of hx0 rfl
  have cx1 : W2.cell? ⟨W.heap.size, 1, none⟩ = some (.int .i64 x.2.1) := cell_of hx0 rfl
  have cy0 : W2.cell? ⟨W.heap.size + 1, 0, none⟩ = some (.string y.1) := cell_of hy0 rfl
  have cy1 : W2.cell? ⟨W.heap.size + 1, 1, none⟩ = some (.int .i64 y.2.1) := cell_of hy0 rfl
  clear hx0 hy0
  go_still_tail 10, (by kernel_rfl)
  still_call (scmp_c_w84q _ _ _)
  repeat still_step
  still_call (cmpi_c_w84q _ _ _)
  refine wpStill_nil ?_
  change wpList _ _ _ _ _ W2.drew
  have hD : W2.drew = W2.drewN 1 := rfl
  go_wp2_with (go_at_call 273; refine (or_c_w84q _ _ (cmpB x.1 y.1) (cmpI y.2.1 x.2.1) (cellnew0 _ _ _ 3) (cellnew1 _ _ _ 3)).mono ?_; rintro e w' ⟨rfl, rfl⟩)
  go_ret
  obtain ⟨os, rfl⟩ := hW
  refine ⟨rfl, 1, os ++ #[Obj.cells #[.int .i64 (cmpB x.1 y.1), .int .i64 (cmpI y.2.1 x.2.1)] 3], ?_⟩
  rw [alloc_eq_grow]
  exact grow_grow (W.drewN 1) os _
set_option maxHeartbeats 1000000 in
theorem closure_w84q (W : World) (x y) (hx : okRow x = true) (hy : okRow y = true) : Calls Tryz.prog 193 #[.agg (encRow x).toArray, .agg (encRow y).toArray] W fun e w' => e = .returned (.int .i64 (cfRow x y)) ∧ ∃ q os', w' = Go.Sort.grow (W.drewN q) os' := by
  exact row_c_w84q W x y
theorem sound_w84q : Sound Tryz.prog 197 S_w84q := sound_sort lays_w84q rfl hencRow (by decide) (fun _ => rfl) (fun x v hv => by simp [encRow] at hv; rcases hv with rfl | rfl | rfl | rfl <;> rfl) Tryz.isAgg78 Tryz.sizeOf78 swoRow (enters_of Tryz.func193 (by kernel_rfl) rfl) closure_w84q
theorem ok_w84q : EnvOK Tryz.prog G_w84q := envOK_sound ok_w83q ⟨_, Tryz.func197, by kernel_rfl, by kernel_rfl⟩ sound_w84q
theorem e_w85q (n : Nat) (x) : afun G_w84q T BB 0 n Tryz.f97 a_w85q S_w85q.ps S_w85q.rs x = p_w85q n x := by kernel_rfl
theorem ok_w85q : EnvOK Tryz.prog G_w85q := envOK_cons hm hT ok_w84q Tryz.func97 (by kernel_rfl) hBB fun x r hr => ⟨FU, (e_w85q FU x).trans hr⟩
theorem e_w86q (n : Nat) (x) : afun G_w85q T BB 0 n Tryz.f98 a_w86q S_w86q.ps S_w86q.rs x = p_w86q n x := by kernel_rfl
theorem ok_w86q : EnvOK Tryz.prog G_w86q := envOK_cons hm hT ok_w85q Tryz.func98 (by kernel_rfl) hBB fun x r hr => ⟨FU, (e_w86q FU x).trans hr⟩
theorem e_w87q (n : Nat) (x) : afun G_w86q T BB 3 n Tryz.f25 a_w87q S_w87q.ps S_w87q.rs x = p_w87q n x := by kernel_rfl
theorem ok_w87q : EnvOK Tryz.prog G_w87q := envOK_cons hm hT ok_w86q Tryz.func25 (by kernel_rfl) hBB fun x r hr => ⟨FU, (e_w87q FU x).trans hr⟩
theorem e_w88q (n : Nat) (x) : afun G_w87q T BB 0 n Tryz.f211 a_w88q S_w88q.ps S_w88q.rs x = p_w88q n x := by kernel_rfl
theorem ok_w88q : EnvOK Tryz.prog G_w88q := envOK_cons hm hT ok_w87q Tryz.func211 (by kernel_rfl) hBB fun x r hr => ⟨FU, (e_w88q FU x).trans hr⟩
theorem e_w89q (n : Nat) (x) : afun G_w88q T BB 0 n Tryz.f202 a_w89q S_w89q.ps S_w89q.rs x = p_w89q n x := by kernel_rfl
theorem ok_w89q : EnvOK Tryz.prog G_w89q := envOK_cons hm hT ok_w88q Tryz.func202 (by kernel_rfl) hBB fun x r hr => ⟨FU, (e_w89q FU x).trans hr⟩
theorem e_w90q (n : Nat) (x) : afun G_w89q T BB 0 n Tryz.f203 a_w90q S_w90q.ps S_w90q.rs x = p_w90q n x := by kernel_rfl
theorem ok_w90q : EnvOK Tryz.prog G_w90q := envOK_cons hm hT ok_w89q Tryz.func203 (by kernel_rfl) hBB fun x r hr => ⟨FU, (e_w90q FU x).trans hr⟩
theorem e_w91q (n : Nat) (x) : afun G_w90q T BB 0 n Tryz.f204 a_w91q S_w91q.ps S_w91q.rs x = p_w91q n x := by kernel_rfl
theorem ok_w91q : EnvOK Tryz.prog G_w91q := envOK_cons hm hT ok_w90q Tryz.func204 (by kernel_rfl) hBB fun x r hr => ⟨FU, (e_w91q FU x).trans hr⟩
theorem e_w92q (n : Nat) (x) : afun G_w91q T BB 0 n Tryz.f105 a_w92q S_w92q.ps S_w92q.rs x = p_w92q n x := by kernel_rfl
theorem ok_w92q : EnvOK Tryz.prog G_w92q := envOK_cons hm hT ok_w91q Tryz.func105 (by kernel_rfl) hBB fun x r hr => ⟨FU, (e_w92q FU x).trans hr⟩
theorem e_w93q (n : Nat) (x) : afun G_w92q T BB 0 n Tryz.f212 a_w93q S_w93q.ps S_w93q.rs x = p_w93q n x := by kernel_rfl
theorem ok_w93q : EnvOK Tryz.prog G_w93q := envOK_cons hm hT ok_w92q Tryz.func212 (by kernel_rfl) hBB fun x r hr => ⟨FU, (e_w93q FU x).trans hr⟩
theorem e_w94q (n : Nat) (x) : afun G_w93q T BB 0 n Tryz.f114 a_w94q S_w94q.ps S_w94q.rs x = p_w94q n x := by kernel_rfl
theorem ok_w94q : EnvOK Tryz.prog G_w94q := envOK_cons hm hT ok_w93q Tryz.func114 (by kernel_rfl) hBB fun x r hr => ⟨FU, (e_w94q FU x).trans hr⟩
theorem e_w95q (n : Nat) (x) : afun G_w94q T BB 0 n Tryz.f35 a_w95q S_w95q.ps S_w95q.rs x = p_w95q n x := by kernel_rfl
theorem ok_w95q : EnvOK Tryz.prog G_w95q := envOK_cons hm hT ok_w94q Tryz.func35 (by kernel_rfl) hBB fun x r hr => ⟨FU, (e_w95q FU x).trans hr⟩
theorem e_w96q (n : Nat) (x) : afun G_w95q T BB 0 n Tryz.f213 a_w96q S_w96q.ps S_w96q.rs x = p_w96q n x := by kernel_rfl
theorem ok_w96q : EnvOK Tryz.prog G_w96q := envOK_cons hm hT ok_w95q Tryz.func213 (by kernel_rfl) hBB fun x r hr => ⟨FU, (e_w96q FU x).trans hr⟩
theorem e_w97q (n : Nat) (x) : afun G_w96q T BB 0 n Tryz.f115 a_w97q S_w97q.ps S_w97q.rs x = p_w97q n x := by kernel_rfl
theorem ok_w97q : EnvOK Tryz.prog G_w97q := envOK_cons hm hT ok_w96q Tryz.func115 (by kernel_rfl) hBB fun x r hr => ⟨FU, (e_w97q FU x).trans hr⟩
theorem e_w98q (n : Nat) (x) : afun G_w97q T BB 0 n Tryz.f116 a_w98q S_w98q.ps S_w98q.rs x = p_w98q n x := by kernel_rfl
theorem ok_w98q : EnvOK Tryz.prog G_w98q := envOK_cons hm hT ok_w97q Tryz.func116 (by kernel_rfl) hBB fun x r hr => ⟨FU, (e_w98q FU x).trans hr⟩
theorem e_w99q (n : Nat) (x) : afun G_w98q T BB 0 n Tryz.f117 a_w99q S_w99q.ps S_w99q.rs x = p_w99q n x := by kernel_rfl
theorem ok_w99q : EnvOK Tryz.prog G_w99q := envOK_cons hm hT ok_w98q Tryz.func117 (by kernel_rfl) hBB fun x r hr => ⟨FU, (e_w99q FU x).trans hr⟩
theorem e_w100q (n : Nat) (x) : afun G_w99q T BB 0 n Tryz.f118 a_w100q S_w100q.ps S_w100q.rs x = p_w100q n x := by kernel_rfl
theorem ok_w100q : EnvOK Tryz.prog G_w100q := envOK_cons hm hT ok_w99q Tryz.func118 (by kernel_rfl) hBB fun x r hr => ⟨FU, (e_w100q FU x).trans hr⟩
theorem e_w101q (n : Nat) (x) : afun G_w100q T BB 0 n Tryz.f36 a_w101q S_w101q.ps S_w101q.rs x = p_w101q n x := by kernel_rfl
theorem ok_w101q : EnvOK Tryz.prog G_w101q := envOK_cons hm hT ok_w100q Tryz.func36 (by kernel_rfl) hBB fun x r hr => ⟨FU, (e_w101q FU x).trans hr⟩
theorem e_w102q (n : Nat) (x) : afun G_w101q T BB 0 n Tryz.f38 a_w102q S_w102q.ps S_w102q.rs x = p_w102q n x := by kernel_rfl
theorem ok_w102q : EnvOK Tryz.prog G_w102q := envOK_cons hm hT ok_w101q Tryz.func38 (by kernel_rfl) hBB fun x r hr => ⟨FU, (e_w102q FU x).trans hr⟩
theorem e_w103q (n : Nat) (x) : afun G_w102q T BB 0 n Tryz.f6 a_w103q S_w103q.ps S_w103q.rs x = p_w103q n x := by kernel_rfl
theorem ok_w103q : EnvOK Tryz.prog G_w103q := envOK_cons hm hT ok_w102q Tryz.func6 (by kernel_rfl) hBB fun x r hr => ⟨FU, (e_w103q FU x).trans hr⟩
end Go.RvP
