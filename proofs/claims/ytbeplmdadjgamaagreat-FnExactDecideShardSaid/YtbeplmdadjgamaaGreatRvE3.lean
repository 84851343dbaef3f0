/- Each function of the program is as its plain function says, for FnExactDecideShard. No condition. -/
import Derived.Test.YtbeplmdadjgamaaGreatRvP3
import Derived.Test.YtbeplmdadjgamaaGreatProg
import Derived.KernelRfl
import Derived.RangeFuncBox
import Derived.RangeFuncLeaves
import Derived.Shelf.Abstract
import Derived.WalkKit
import Derived.OwnWalkIn
import Derived.TacticsInMore
import Derived.LoopNIn
import Derived.LoopIn
import Derived.Shelf.RegionOpenPlain
import Derived.Deep.RegionLaw
import Derived.Deep.LoopGhost
namespace Go.RvP
open Go Go.Rv Go.Proofs Go.Shelf Go.RowKit Go.Lib Go.Sort
set_option maxRecDepth 100000
theorem hm : Tryz.prog.follows .mixedOrders = true := by kernel_rfl
theorem hT : TabOK Tryz.prog T := tabOK_of (by kernel_rfl)
noncomputable def BB : Bodies := [(19, Tryz.f19), (20, Tryz.f20), (160, Tryz.f160), (164, Tryz.f164), (246, Tryz.f246), (249, Tryz.f249), (250, Tryz.f250), (251, Tryz.f251), (259, Tryz.f259), (263, Tryz.f263), (303, Tryz.f303), (304, Tryz.f304), (309, Tryz.f309), (310, Tryz.f310), (311, Tryz.f311), (314, Tryz.f314), (336, Tryz.f336)]
theorem hBB : BodyOK Tryz.prog BB := (bodyOK_cons Tryz.func19 (by kernel_rfl) (bodyOK_cons Tryz.func20 (by kernel_rfl) (bodyOK_cons Tryz.func160 (by kernel_rfl) (bodyOK_cons Tryz.func164 (by kernel_rfl) (bodyOK_cons Tryz.func246 (by kernel_rfl) (bodyOK_cons Tryz.func249 (by kernel_rfl) (bodyOK_cons Tryz.func250 (by kernel_rfl) (bodyOK_cons Tryz.func251 (by kernel_rfl) (bodyOK_cons Tryz.func259 (by kernel_rfl) (bodyOK_cons Tryz.func263 (by kernel_rfl) (bodyOK_cons Tryz.func303 (by kernel_rfl) (bodyOK_cons Tryz.func304 (by kernel_rfl) (bodyOK_cons Tryz.func309 (by kernel_rfl) (bodyOK_cons Tryz.func310 (by kernel_rfl) (bodyOK_cons Tryz.func311 (by kernel_rfl) (bodyOK_cons Tryz.func314 (by kernel_rfl) (bodyOK_cons Tryz.func336 (by kernel_rfl) bodyOK_nil)))))))))))))))))
theorem e_w0q (n : Nat) (x) : afun [] T BB 0 n Tryz.f57 a_w0q S_w0q.ps S_w0q.rs x = p_w0q n x := by kernel_rfl
theorem ok_w0q : EnvOK Tryz.prog G_w0q := envOK_cons hm hT envOK_nil Tryz.func57 (by kernel_rfl) hBB fun x r hr => ⟨FU, (e_w0q FU x).trans hr⟩
theorem e_w1q (n : Nat) (x) : afun G_w0q T BB 0 n Tryz.f58 a_w1q S_w1q.ps S_w1q.rs x = p_w1q n x := by kernel_rfl
theorem ok_w1q : EnvOK Tryz.prog G_w1q := envOK_cons hm hT ok_w0q Tryz.func58 (by kernel_rfl) hBB fun x r hr => ⟨FU, (e_w1q FU x).trans hr⟩
theorem e_w2q (n : Nat) (x) : afun G_w1q T BB 0 n Tryz.f234 a_w2q S_w2q.ps S_w2q.rs x = p_w2q n x := by kernel_rfl
theorem ok_w2q : EnvOK Tryz.prog G_w2q := envOK_cons hm hT ok_w1q Tryz.func234 (by kernel_rfl) hBB fun x r hr => ⟨FU, (e_w2q FU x).trans hr⟩
theorem e_w3q (n : Nat) (x) : afun G_w2q T BB 0 n Tryz.f144 a_w3q S_w3q.ps S_w3q.rs x = p_w3q n x := by kernel_rfl
theorem ok_w3q : EnvOK Tryz.prog G_w3q := envOK_cons hm hT ok_w2q Tryz.func144 (by kernel_rfl) hBB fun x r hr => ⟨FU, (e_w3q FU x).trans hr⟩
theorem e_w4q (n : Nat) (x) : afun G_w3q T BB 0 n Tryz.f59 a_w4q S_w4q.ps S_w4q.rs x = p_w4q n x := by kernel_rfl
theorem ok_w4q : EnvOK Tryz.prog G_w4q := envOK_cons hm hT ok_w3q Tryz.func59 (by kernel_rfl) hBB fun x r hr => ⟨FU, (e_w4q FU x).trans hr⟩
theorem e_w5q (n : Nat) (x) : afun G_w4q T BB 0 n Tryz.f60 a_w5q S_w5q.ps S_w5q.rs x = p_w5q n x := by kernel_rfl
theorem ok_w5q : EnvOK Tryz.prog G_w5q := envOK_cons hm hT ok_w4q Tryz.func60 (by kernel_rfl) hBB fun x r hr => ⟨FU, (e_w5q FU x).trans hr⟩
theorem e_w6q (n : Nat) (x) : afun G_w5q T BB 0 n Tryz.f13 a_w6q S_w6q.ps S_w6q.rs x = p_w6q n x := by kernel_rfl
theorem ok_w6q : EnvOK Tryz.prog G_w6q := envOK_cons hm hT ok_w5q Tryz.func13 (by kernel_rfl) hBB fun x r hr => ⟨FU, (e_w6q FU x).trans hr⟩
theorem e_w7q (n : Nat) (x) : afun G_w6q T BB 0 n Tryz.f155 a_w7q S_w7q.ps S_w7q.rs x = p_w7q n x := by kernel_rfl
theorem ok_w7q : EnvOK Tryz.prog G_w7q := envOK_cons hm hT ok_w6q Tryz.func155 (by kernel_rfl) hBB fun x r hr => ⟨FU, (e_w7q FU x).trans hr⟩
theorem e_w8q (n : Nat) (x) : afun G_w7q T BB 0 n Tryz.f65 a_w8q S_w8q.ps S_w8q.rs x = p_w8q n x := by kernel_rfl
theorem ok_w8q : EnvOK Tryz.prog G_w8q := envOK_cons hm hT ok_w7q Tryz.func65 (by kernel_rfl) hBB fun x r hr => ⟨FU, (e_w8q FU x).trans hr⟩
theorem e_w9q (n : Nat) (x) : afun G_w8q T BB 0 n Tryz.f156 a_w9q S_w9q.ps S_w9q.rs x = p_w9q n x := by kernel_rfl
theorem ok_w9q : EnvOK Tryz.prog G_w9q := envOK_cons hm hT ok_w8q Tryz.func156 (by kernel_rfl) hBB fun x r hr => ⟨FU, (e_w9q FU x).trans hr⟩
theorem e_w10q (n : Nat) (x) : afun G_w9q T BB 0 n Tryz.f66 a_w10q S_w10q.ps S_w10q.rs x = p_w10q n x := by kernel_rfl
theorem ok_w10q : EnvOK Tryz.prog G_w10q := envOK_cons hm hT ok_w9q Tryz.func66 (by kernel_rfl) hBB fun x r hr => ⟨FU, (e_w10q FU x).trans hr⟩
theorem e_w11q (n : Nat) (x) : afun G_w10q T BB 0 n Tryz.f299 a_w11q S_w11q.ps S_w11q.rs x = p_w11q n x := by kernel_rfl
theorem ok_w11q : EnvOK Tryz.prog G_w11q := envOK_cons hm hT ok_w10q Tryz.func299 (by kernel_rfl) hBB fun x r hr => ⟨FU, (e_w11q FU x).trans hr⟩
theorem e_w12q (n : Nat) (x) : afun G_w11q T BB 0 n Tryz.f242 a_w12q S_w12q.ps S_w12q.rs x = p_w12q n x := by kernel_rfl
theorem ok_w12q : EnvOK Tryz.prog G_w12q := envOK_cons hm hT ok_w11q Tryz.func242 (by kernel_rfl) hBB fun x r hr => ⟨FU, (e_w12q FU x).trans hr⟩
theorem e_w13q (n : Nat) (x) : afun G_w12q T BB 0 n Tryz.f157 a_w13q S_w13q.ps S_w13q.rs x = p_w13q n x := by kernel_rfl
theorem ok_w13q : EnvOK Tryz.prog G_w13q := envOK_cons hm hT ok_w12q Tryz.func157 (by kernel_rfl) hBB fun x r hr => ⟨FU, (e_w13q FU x).trans hr⟩
theorem e_w14q (n : Nat) (x) : afun G_w13q T BB 0 n Tryz.f67 a_w14q S_w14q.ps S_w14q.rs x = p_w14q n x := by kernel_rfl
theorem ok_w14q : EnvOK Tryz.prog G_w14q := envOK_cons hm hT ok_w13q Tryz.func67 (by kernel_rfl) hBB fun x r hr => ⟨FU, (e_w14q FU x).trans hr⟩
theorem e_w15q (n : Nat) (x) : afun G_w14q T BB 0 n Tryz.f68 a_w15q S_w15q.ps S_w15q.rs x = p_w15q n x := by kernel_rfl
theorem ok_w15q : EnvOK Tryz.prog G_w15q := envOK_cons hm hT ok_w14q Tryz.func68 (by kernel_rfl) hBB fun x r hr => ⟨FU, (e_w15q FU x).trans hr⟩
theorem e_w16q (n : Nat) (x) : afun G_w15q T BB 0 n Tryz.f15 a_w16q S_w16q.ps S_w16q.rs x = p_w16q n x := by kernel_rfl
theorem ok_w16q : EnvOK Tryz.prog G_w16q := envOK_cons hm hT ok_w15q Tryz.func15 (by kernel_rfl) hBB fun x r hr => ⟨FU, (e_w16q FU x).trans hr⟩
theorem e_w17q (n : Nat) (x) : afun G_w16q T BB 0 n Tryz.f63 a_w17q S_w17q.ps S_w17q.rs x = p_w17q n x := by kernel_rfl
theorem ok_w17q : EnvOK Tryz.prog G_w17q := envOK_cons hm hT ok_w16q Tryz.func63 (by kernel_rfl) hBB fun x r hr => ⟨FU, (e_w17q FU x).trans hr⟩
theorem e_w18q (n : Nat) (x) : afun G_w17q T BB 0 n Tryz.f296 a_w18q S_w18q.ps S_w18q.rs x = p_w18q n x := by kernel_rfl
theorem ok_w18q : EnvOK Tryz.prog G_w18q := envOK_cons hm hT ok_w17q Tryz.func296 (by kernel_rfl) hBB fun x r hr => ⟨FU, (e_w18q FU x).trans hr⟩
theorem e_w19q (n : Nat) (x) : afun G_w18q T BB 0 n Tryz.f235 a_w19q S_w19q.ps S_w19q.rs x = p_w19q n x := by kernel_rfl
theorem ok_w19q : EnvOK Tryz.prog G_w19q := envOK_cons hm hT ok_w18q Tryz.func235 (by kernel_rfl) hBB fun x r hr => ⟨FU, (e_w19q FU x).trans hr⟩
theorem e_w20q (n : Nat) (x) : afun G_w19q T BB 0 n Tryz.f145 a_w20q S_w20q.ps S_w20q.rs x = p_w20q n x := by kernel_rfl
theorem ok_w20q : EnvOK Tryz.prog G_w20q := envOK_cons hm hT ok_w19q Tryz.func145 (by kernel_rfl) hBB fun x r hr => ⟨FU, (e_w20q FU x).trans hr⟩
theorem e_w21q (n : Nat) (x) : afun G_w20q T BB 0 n Tryz.f62 a_w21q S_w21q.ps S_w21q.rs x = p_w21q n x := by kernel_rfl
theorem ok_w21q : EnvOK Tryz.prog G_w21q := envOK_cons hm hT ok_w20q Tryz.func62 (by kernel_rfl) hBB fun x r hr => ⟨FU, (e_w21q FU x).trans hr⟩
theorem e_w22q (n : Nat) (x) : afun G_w21q T BB 0 n Tryz.f146 a_w22q S_w22q.ps S_w22q.rs x = p_w22q n x := by kernel_rfl
theorem ok_w22q : EnvOK Tryz.prog G_w22q := envOK_cons hm hT ok_w21q Tryz.func146 (by kernel_rfl) hBB fun x r hr => ⟨FU, (e_w22q FU x).trans hr⟩
theorem e_w23q (n : Nat) (x) : afun G_w22q T BB 0 n Tryz.f297 a_w23q S_w23q.ps S_w23q.rs x = p_w23q n x := by kernel_rfl
theorem ok_w23q : EnvOK Tryz.prog G_w23q := envOK_cons hm hT ok_w22q Tryz.func297 (by kernel_rfl) hBB fun x r hr => ⟨FU, (e_w23q FU x).trans hr⟩
theorem e_w24q (n : Nat) (x) : afun G_w23q T BB 0 n Tryz.f236 a_w24q S_w24q.ps S_w24q.rs x = p_w24q n x := by kernel_rfl
theorem ok_w24q : EnvOK Tryz.prog G_w24q := envOK_cons hm hT ok_w23q Tryz.func236 (by kernel_rfl) hBB fun x r hr => ⟨FU, (e_w24q FU x).trans hr⟩
theorem e_w25q (n : Nat) (x) : afun G_w24q T BB 0 n Tryz.f154 a_w25q S_w25q.ps S_w25q.rs x = p_w25q n x := by kernel_rfl
theorem ok_w25q : EnvOK Tryz.prog G_w25q := envOK_cons hm hT ok_w24q Tryz.func154 (by kernel_rfl) hBB fun x r hr => ⟨FU, (e_w25q FU x).trans hr⟩
theorem e_w26q (n : Nat) (x) : afun G_w25q T BB 0 n Tryz.f148 a_w26q S_w26q.ps S_w26q.rs x = p_w26q n x := by kernel_rfl
theorem ok_w26q : EnvOK Tryz.prog G_w26q := envOK_cons hm hT ok_w25q Tryz.func148 (by kernel_rfl) hBB fun x r hr => ⟨FU, (e_w26q FU x).trans hr⟩
theorem e_w27q (n : Nat) (x) : afun G_w26q T BB 0 n Tryz.f150 a_w27q S_w27q.ps S_w27q.rs x = p_w27q n x := by kernel_rfl
theorem ok_w27q : EnvOK Tryz.prog G_w27q := envOK_cons hm hT ok_w26q Tryz.func150 (by kernel_rfl) hBB fun x r hr => ⟨FU, (e_w27q FU x).trans hr⟩
theorem e_w28q (n : Nat) (x) : afun G_w27q T BB 0 n Tryz.f298 a_w28q S_w28q.ps S_w28q.rs x = p_w28q n x := by kernel_rfl
theorem ok_w28q : EnvOK Tryz.prog G_w28q := envOK_cons hm hT ok_w27q Tryz.func298 (by kernel_rfl) hBB fun x r hr => ⟨FU, (e_w28q FU x).trans hr⟩
theorem e_w29q (n : Nat) (x) : afun G_w28q T BB 0 n Tryz.f237 a_w29q S_w29q.ps S_w29q.rs x = p_w29q n x := by kernel_rfl
theorem ok_w29q : EnvOK Tryz.prog G_w29q := envOK_cons hm hT ok_w28q Tryz.func237 (by kernel_rfl) hBB fun x r hr => ⟨FU, (e_w29q FU x).trans hr⟩
theorem e_w30q (n : Nat) (x) : afun G_w29q T BB 0 n Tryz.f238 a_w30q S_w30q.ps S_w30q.rs x = p_w30q n x := by kernel_rfl
theorem ok_w30q : EnvOK Tryz.prog G_w30q := envOK_cons hm hT ok_w29q Tryz.func238 (by kernel_rfl) hBB fun x r hr => ⟨FU, (e_w30q FU x).trans hr⟩
theorem e_w31q (n : Nat) (x) : afun G_w30q T BB 0 n Tryz.f241 a_w31q S_w31q.ps S_w31q.rs x = p_w31q n x := by kernel_rfl
theorem ok_w31q : EnvOK Tryz.prog G_w31q := envOK_cons hm hT ok_w30q Tryz.func241 (by kernel_rfl) hBB fun x r hr => ⟨FU, (e_w31q FU x).trans hr⟩
theorem e_w32q (n : Nat) (x) : afun G_w31q T BB 0 n Tryz.f239 a_w32q S_w32q.ps S_w32q.rs x = p_w32q n x := by kernel_rfl
theorem ok_w32q : EnvOK Tryz.prog G_w32q := envOK_cons hm hT ok_w31q Tryz.func239 (by kernel_rfl) hBB fun x r hr => ⟨FU, (e_w32q FU x).trans hr⟩
theorem e_w33q (n : Nat) (x) : afun G_w32q T BB 0 n Tryz.f147 a_w33q S_w33q.ps S_w33q.rs x = p_w33q n x := by kernel_rfl
theorem ok_w33q : EnvOK Tryz.prog G_w33q := envOK_cons hm hT ok_w32q Tryz.func147 (by kernel_rfl) hBB fun x r hr => ⟨FU, (e_w33q FU x).trans hr⟩
theorem e_w34q (n : Nat) (x) : afun G_w33q T BB 0 n Tryz.f61 a_w34q S_w34q.ps S_w34q.rs x = p_w34q n x := by kernel_rfl
theorem ok_w34q : EnvOK Tryz.prog G_w34q := envOK_cons hm hT ok_w33q Tryz.func61 (by kernel_rfl) hBB fun x r hr => ⟨FU, (e_w34q FU x).trans hr⟩
theorem e_w35q (n : Nat) (x) : afun G_w34q T BB 0 n Tryz.f152 a_w35q S_w35q.ps S_w35q.rs x = p_w35q n x := by kernel_rfl
theorem ok_w35q : EnvOK Tryz.prog G_w35q := envOK_cons hm hT ok_w34q Tryz.func152 (by kernel_rfl) hBB fun x r hr => ⟨FU, (e_w35q FU x).trans hr⟩
theorem e_w36q (n : Nat) (x) : afun G_w35q T BB 0 n Tryz.f149 a_w36q S_w36q.ps S_w36q.rs x = p_w36q n x := by kernel_rfl
theorem ok_w36q : EnvOK Tryz.prog G_w36q := envOK_cons hm hT ok_w35q Tryz.func149 (by kernel_rfl) hBB fun x r hr => ⟨FU, (e_w36q FU x).trans hr⟩
theorem e_w37q (n : Nat) (x) : afun G_w36q T BB 0 n Tryz.f151 a_w37q S_w37q.ps S_w37q.rs x = p_w37q n x := by kernel_rfl
theorem ok_w37q : EnvOK Tryz.prog G_w37q := envOK_cons hm hT ok_w36q Tryz.func151 (by kernel_rfl) hBB fun x r hr => ⟨FU, (e_w37q FU x).trans hr⟩
theorem e_w38q (n : Nat) (x) : afun G_w37q T BB 0 n Tryz.f240 a_w38q S_w38q.ps S_w38q.rs x = p_w38q n x := by kernel_rfl
theorem ok_w38q : EnvOK Tryz.prog G_w38q := envOK_cons hm hT ok_w37q Tryz.func240 (by kernel_rfl) hBB fun x r hr => ⟨FU, (e_w38q FU x).trans hr⟩
theorem e_w39q (n : Nat) (x) : afun G_w38q T BB 0 n Tryz.f153 a_w39q S_w39q.ps S_w39q.rs x = p_w39q n x := by kernel_rfl
theorem ok_w39q : EnvOK Tryz.prog G_w39q := envOK_cons hm hT ok_w38q Tryz.func153 (by kernel_rfl) hBB fun x r hr => ⟨FU, (e_w39q FU x).trans hr⟩
theorem e_w40q (n : Nat) (x) : afun G_w39q T BB 0 n Tryz.f64 a_w40q S_w40q.ps S_w40q.rs x = p_w40q n x := by kernel_rfl
theorem ok_w40q : EnvOK Tryz.prog G_w40q := envOK_cons hm hT ok_w39q Tryz.func64 (by kernel_rfl) hBB fun x r hr => ⟨FU, (e_w40q FU x).trans hr⟩
theorem e_w41q (n : Nat) (x) : afun G_w40q T BB 0 n Tryz.f14 a_w41q S_w41q.ps S_w41q.rs x = p_w41q n x := by kernel_rfl
theorem ok_w41q : EnvOK Tryz.prog G_w41q := envOK_cons hm hT ok_w40q Tryz.func14 (by kernel_rfl) hBB fun x r hr => ⟨FU, (e_w41q FU x).trans hr⟩
theorem e_w42q (n : Nat) (x) : afun G_w41q T BB 0 n Tryz.f195 a_w42q S_w42q.ps S_w42q.rs x = p_w42q n x := by kernel_rfl
theorem ok_w42q : EnvOK Tryz.prog G_w42q := envOK_cons hm hT ok_w41q Tryz.func195 (by kernel_rfl) hBB fun x r hr => ⟨FU, (e_w42q FU x).trans hr⟩
theorem e_w43q (n : Nat) (x) : afun G_w42q T BB 0 n Tryz.f158 a_w43q S_w43q.ps S_w43q.rs x = p_w43q n x := by kernel_rfl
theorem ok_w43q : EnvOK Tryz.prog G_w43q := envOK_cons hm hT ok_w42q Tryz.func158 (by kernel_rfl) hBB fun x r hr => ⟨FU, (e_w43q FU x).trans hr⟩
theorem e_w44q (n : Nat) (x) : afun G_w43q T BB 0 n Tryz.f300 a_w44q S_w44q.ps S_w44q.rs x = p_w44q n x := by kernel_rfl
theorem ok_w44q : EnvOK Tryz.prog G_w44q := envOK_cons hm hT ok_w43q Tryz.func300 (by kernel_rfl) hBB fun x r hr => ⟨FU, (e_w44q FU x).trans hr⟩
theorem e_w45q (n : Nat) (x) : afun G_w44q T BB 0 n Tryz.f243 a_w45q S_w45q.ps S_w45q.rs x = p_w45q n x := by kernel_rfl
theorem ok_w45q : EnvOK Tryz.prog G_w45q := envOK_cons hm hT ok_w44q Tryz.func243 (by kernel_rfl) hBB fun x r hr => ⟨FU, (e_w45q FU x).trans hr⟩
theorem e_w46q (n : Nat) (x) : afun G_w45q T BB 0 n Tryz.f316 a_w46q S_w46q.ps S_w46q.rs x = p_w46q n x := by kernel_rfl
theorem ok_w46q : EnvOK Tryz.prog G_w46q := envOK_cons hm hT ok_w45q Tryz.func316 (by kernel_rfl) hBB fun x r hr => ⟨FU, (e_w46q FU x).trans hr⟩
theorem e_w47q (n : Nat) (x) : afun G_w46q T BB 0 n Tryz.f261 a_w47q S_w47q.ps S_w47q.rs x = p_w47q n x := by kernel_rfl
theorem ok_w47q : EnvOK Tryz.prog G_w47q := envOK_cons hm hT ok_w46q Tryz.func261 (by kernel_rfl) hBB fun x r hr => ⟨FU, (e_w47q FU x).trans hr⟩
theorem e_w48q (n : Nat) (x) : afun G_w47q T BB 0 n Tryz.f273 a_w48q S_w48q.ps S_w48q.rs x = p_w48q n x := by kernel_rfl
theorem ok_w48q : EnvOK Tryz.prog G_w48q := envOK_cons hm hT ok_w47q Tryz.func273 (by kernel_rfl) hBB fun x r hr => ⟨FU, (e_w48q FU x).trans hr⟩
theorem e_w49q (n : Nat) (x) : afun G_w48q T BB 0 n Tryz.f244 a_w49q S_w49q.ps S_w49q.rs x = p_w49q n x := by kernel_rfl
theorem ok_w49q : EnvOK Tryz.prog G_w49q := envOK_cons hm hT ok_w48q Tryz.func244 (by kernel_rfl) hBB fun x r hr => ⟨FU, (e_w49q FU x).trans hr⟩
theorem e_w50q (n : Nat) (x) : afun G_w49q T BB 0 n Tryz.f159 a_w50q S_w50q.ps S_w50q.rs x = p_w50q n x := by kernel_rfl
theorem ok_w50q : EnvOK Tryz.prog G_w50q := envOK_cons hm hT ok_w49q Tryz.func159 (by kernel_rfl) hBB fun x r hr => ⟨FU, (e_w50q FU x).trans hr⟩
theorem e_w51q (n : Nat) (x) : afun G_w50q T BB 0 n Tryz.f168 a_w51q S_w51q.ps S_w51q.rs x = p_w51q n x := by kernel_rfl
theorem ok_w51q : EnvOK Tryz.prog G_w51q := envOK_cons hm hT ok_w50q Tryz.func168 (by kernel_rfl) hBB fun x r hr => ⟨FU, (e_w51q FU x).trans hr⟩
theorem e_w52q (n : Nat) (x) : afun G_w51q T BB 0 n Tryz.f161 a_w52q S_w52q.ps S_w52q.rs x = p_w52q n x := by kernel_rfl
theorem ok_w52q : EnvOK Tryz.prog G_w52q := envOK_cons hm hT ok_w51q Tryz.func161 (by kernel_rfl) hBB fun x r hr => ⟨FU, (e_w52q FU x).trans hr⟩
theorem e_w53q (n : Nat) (x) : afun G_w52q T BB 0 n Tryz.f162 a_w53q S_w53q.ps S_w53q.rs x = p_w53q n x := by kernel_rfl
theorem ok_w53q : EnvOK Tryz.prog G_w53q := envOK_cons hm hT ok_w52q Tryz.func162 (by kernel_rfl) hBB fun x r hr => ⟨FU, (e_w53q FU x).trans hr⟩
theorem e_w54q (n : Nat) (x) : afun G_w53q T BB 0 n Tryz.f301 a_w54q S_w54q.ps S_w54q.rs x = p_w54q n x := by kernel_rfl
theorem ok_w54q : EnvOK Tryz.prog G_w54q := envOK_cons hm hT ok_w53q Tryz.func301 (by kernel_rfl) hBB fun x r hr => ⟨FU, (e_w54q FU x).trans hr⟩
theorem e_w55q (n : Nat) (x) : afun G_w54q T BB 0 n Tryz.f302 a_w55q S_w55q.ps S_w55q.rs x = p_w55q n x := by kernel_rfl
theorem ok_w55q : EnvOK Tryz.prog G_w55q := envOK_cons hm hT ok_w54q Tryz.func302 (by kernel_rfl) hBB fun x r hr => ⟨FU, (e_w55q FU x).trans hr⟩
theorem e_w56q (n : Nat) (x) : afun G_w55q T BB 0 n Tryz.f305 a_w56q S_w56q.ps S_w56q.rs x = p_w56q n x := by kernel_rfl
theorem ok_w56q : EnvOK Tryz.prog G_w56q := envOK_cons hm hT ok_w55q Tryz.func305 (by kernel_rfl) hBB fun x r hr => ⟨FU, (e_w56q FU x).trans hr⟩
theorem e_w57q (n : Nat) (x) : afun G_w56q T BB 3 n Tryz.f245 a_w57q S_w57q.ps S_w57q.rs x = p_w57q n x := by kernel_rfl
theorem ok_w57q : EnvOK Tryz.prog G_w57q := envOK_cons hm hT ok_w56q Tryz.func245 (by kernel_rfl) hBB fun x r hr => ⟨FU, (e_w57q FU x).trans hr⟩
theorem e_w58q (n : Nat) (x) : afun G_w57q T BB 0 n Tryz.f173 a_w58q S_w58q.ps S_w58q.rs x = p_w58q n x := by kernel_rfl
theorem ok_w58q : EnvOK Tryz.prog G_w58q := envOK_cons hm hT ok_w57q Tryz.func173 (by kernel_rfl) hBB fun x r hr => ⟨FU, (e_w58q FU x).trans hr⟩
theorem e_w59q (n : Nat) (x) : afun G_w58q T BB 0 n Tryz.f315 a_w59q S_w59q.ps S_w59q.rs x = p_w59q n x := by kernel_rfl
theorem ok_w59q : EnvOK Tryz.prog G_w59q := envOK_cons hm hT ok_w58q Tryz.func315 (by kernel_rfl) hBB fun x r hr => ⟨FU, (e_w59q FU x).trans hr⟩
theorem e_w60q (n : Nat) (x) : afun G_w59q T BB 1 n Tryz.f258 a_w60q S_w60q.ps S_w60q.rs x = p_w60q n x := by kernel_rfl
theorem ok_w60q : EnvOK Tryz.prog G_w60q := envOK_cons hm hT ok_w59q Tryz.func258 (by kernel_rfl) hBB fun x r hr => ⟨FU, (e_w60q FU x).trans hr⟩
theorem e_w61q (n : Nat) (x) : afun G_w60q T BB 0 n Tryz.f170 a_w61q S_w61q.ps S_w61q.rs x = p_w61q n x := by kernel_rfl
theorem ok_w61q : EnvOK Tryz.prog G_w61q := envOK_cons hm hT ok_w60q Tryz.func170 (by kernel_rfl) hBB fun x r hr => ⟨FU, (e_w61q FU x).trans hr⟩
theorem e_w62q (n : Nat) (x) : afun G_w61q T BB 0 n Tryz.f163 a_w62q S_w62q.ps S_w62q.rs x = p_w62q n x := by kernel_rfl
theorem ok_w62q : EnvOK Tryz.prog G_w62q := envOK_cons hm hT ok_w61q Tryz.func163 (by kernel_rfl) hBB fun x r hr => ⟨FU, (e_w62q FU x).trans hr⟩
theorem e_w63q (n : Nat) (x) : afun G_w62q T BB 0 n Tryz.f91 a_w63q S_w63q.ps S_w63q.rs x = p_w63q n x := by kernel_rfl
theorem ok_w63q : EnvOK Tryz.prog G_w63q := envOK_cons hm hT ok_w62q Tryz.func91 (by kernel_rfl) hBB fun x r hr => ⟨FU, (e_w63q FU x).trans hr⟩
theorem e_w64q (n : Nat) (x) : afun G_w63q T BB 0 n Tryz.f260 a_w64q S_w64q.ps S_w64q.rs x = p_w64q n x := by kernel_rfl
theorem ok_w64q : EnvOK Tryz.prog G_w64q := envOK_cons hm hT ok_w63q Tryz.func260 (by kernel_rfl) hBB fun x r hr => ⟨FU, (e_w64q FU x).trans hr⟩
theorem e_w65q (n : Nat) (x) : afun G_w64q T BB 1 n Tryz.f171 a_w65q S_w65q.ps S_w65q.rs x = p_w65q n x := by kernel_rfl
theorem ok_w65q : EnvOK Tryz.prog G_w65q := envOK_cons hm hT ok_w64q Tryz.func171 (by kernel_rfl) hBB fun x r hr => ⟨FU, (e_w65q FU x).trans hr⟩
theorem e_w66q (n : Nat) (x) : afun G_w65q T BB 0 n Tryz.f165 a_w66q S_w66q.ps S_w66q.rs x = p_w66q n x := by kernel_rfl
theorem ok_w66q : EnvOK Tryz.prog G_w66q := envOK_cons hm hT ok_w65q Tryz.func165 (by kernel_rfl) hBB fun x r hr => ⟨FU, (e_w66q FU x).trans hr⟩
def ren_w67q : Go.Shelf.Ren := ⟨fun n => if n = 6 then 248 else if n = 8 then 306 else if n = 9 then 307 else if n = 11 then 337 else if n = 13 then 276 else if n = 12 then 338 else if n = 23 then 331 else if n = 24 then 332 else if n = 14 then 350 else if n = 15 then 351 else if n = 16 then 352 else if n = 17 then 353 else if n = 18 then 354 else if n = 19 then 355 else if n = 20 then 356 else if n = 21 then 357 else if n = 22 then 358 else if n = 25 then 363 else if n = 26 then 345 else if n = 27 then 346 else if n = 28 then 364 else if n = 29 then 365 else if n = 30 then 316 else if n = 31 then 367 else n, fun n => if n = 26 then 2 else if n = 28 then 272 else if n = 24 then 25 else if n = 0 then 0 else if n = 3 then 3 else if n = 37 then 294 else if n = 48 then 330 else if n = 50 then 297 else if n = 4 then 4 else if n = 40 then 324 else if n = 39 then 323 else if n = 45 then 204 else if n = 5 then 5 else if n = 9 then 9 else if n = 51 then 338 else if n = 55 then 342 else if n = 57 then 351 else if n = 58 then 352 else if n = 33 then 106 else n, fun n => n⟩
theorem lays_w67q : Go.Proofs.SlLaysZI.n6 Tryz.prog ren_w67q where
  mixed := by kernel_rfl
  f6 := ⟨"slices.Sorted[int64]", by decide, Tryz.func248.trans (congrArg some (by kernel_rfl))⟩
  f8 := ⟨"slices.Collect[int64]", by decide, Tryz.func306.trans (congrArg some (by kernel_rfl))⟩
  f11 := ⟨"slices.AppendSeq[[]int64,int64]", by decide, Tryz.func337.trans (congrArg some (by kernel_rfl))⟩
  t0 := Tryz.underlying0
  a0 := Tryz.isAgg0
  z0 := Tryz.sizeOf0
  v0 := Tryz.zeroValue0
  t24 := Tryz.underlying25
  a24 := Tryz.isAgg25
  z24 := Tryz.sizeOf25
  v24 := Tryz.zeroValue25
  t26 := Tryz.underlying2
  a26 := Tryz.isAgg2
  z26 := Tryz.sizeOf2
  v26 := Tryz.zeroValue2
  t28 := Tryz.underlying272
  a28 := Tryz.isAgg272
  z28 := Tryz.sizeOf272
  v28 := Tryz.zeroValue272
  i26 := by kernel_rfl
def ren_slices_Sorted_int64s : Go.Shelf.Ren := ⟨fun n => if n = 5 then 307 else if n = 8 then 276 else if n = 7 then 338 else if n = 19 then 331 else if n = 20 then 332 else if n = 10 then 350 else if n = 11 then 351 else if n = 12 then 352 else if n = 13 then 353 else if n = 14 then 354 else if n = 15 then 355 else if n = 16 then 356 else if n = 17 then 357 else if n = 18 then 358 else if n = 30 then 363 else if n = 31 then 345 else if n = 32 then 346 else if n = 33 then 364 else if n = 34 then 365 else if n = 35 then 316 else if n = 40 then 367 else n, fun n => if n = 23 then 25 else if n = 25 then 2 else if n = 3 then 3 else if n = 32 then 294 else if n = 22 then 25 else if n = 0 then 0 else if n = 44 then 330 else if n = 46 then 297 else if n = 4 then 4 else if n = 36 then 324 else if n = 35 then 323 else if n = 41 then 204 else if n = 5 then 5 else if n = 9 then 9 else if n = 53 then 338 else if n = 57 then 342 else if n = 63 then 351 else if n = 64 then 352 else n, fun n => n⟩
theorem lays_slices_Sorted_int64s : Go.Proofs.SlLaysM.n5 Tryz.prog ren_slices_Sorted_int64s where
  mixed := by kernel_rfl
  f5 := ⟨"slices.Sort[[]int64,int64]", by decide, Tryz.func307.trans (congrArg some (by kernel_rfl))⟩
  f7 := ⟨"slices.pdqsortOrdered[int64]", by decide, Tryz.func338.trans (congrArg some (by kernel_rfl))⟩
  f8 := Tryz.func276.trans (congrArg some (by kernel_rfl))
  f10 := ⟨"slices.insertionSortOrdered[int64]", by decide, Tryz.func350.trans (congrArg some (by kernel_rfl))⟩
  f11 := ⟨"slices.heapSortOrdered[int64]", by decide, Tryz.func351.trans (congrArg some (by kernel_rfl))⟩
  f12 := ⟨"slices.breakPatternsOrdered[int64]", by decide, Tryz.func352.trans (congrArg some (by kernel_rfl))⟩
  f13 := ⟨"slices.choosePivotOrdered[int64]", by decide, Tryz.func353.trans (congrArg some (by kernel_rfl))⟩
  f14 := ⟨"slices.reverseRangeOrdered[int64]", by decide, Tryz.func354.trans (congrArg some (by kernel_rfl))⟩
  f15 := ⟨"slices.partialInsertionSortOrdered[int64]", by decide, Tryz.func355.trans (congrArg some (by kernel_rfl))⟩
  f16 := ⟨"cmp.Less[int64]", by decide, Tryz.func356.trans (congrArg some (by kernel_rfl))⟩
  f17 := ⟨"slices.partitionEqualOrdered[int64]", by decide, Tryz.func357.trans (congrArg some (by kernel_rfl))⟩
  f18 := ⟨"slices.partitionOrdered[int64]", by decide, Tryz.func358.trans (congrArg some (by kernel_rfl))⟩
  f19 := Tryz.func331.trans (congrArg some (by kernel_rfl))
  f20 := Tryz.func332.trans (congrArg some (by kernel_rfl))
  f30 := ⟨"slices.siftDownOrdered[int64]", by decide, Tryz.func363.trans (congrArg some (by kernel_rfl))⟩
  f31 := Tryz.func345.trans (congrArg some (by kernel_rfl))
  f32 := Tryz.func346.trans (congrArg some (by kernel_rfl))
  f33 := ⟨"slices.medianAdjacentOrdered[int64]", by decide, Tryz.func364.trans (congrArg some (by kernel_rfl))⟩
  f34 := ⟨"slices.medianOrdered[int64]", by decide, Tryz.func365.trans (congrArg some (by kernel_rfl))⟩
  f35 := ⟨"cmp.isNaN[int64]", by decide, Tryz.func316.trans (congrArg some (by kernel_rfl))⟩
  f40 := ⟨"slices.order2Ordered[int64]", by decide, Tryz.func367.trans (congrArg some (by kernel_rfl))⟩
  t0 := Tryz.underlying0
  a0 := Tryz.isAgg0
  z0 := Tryz.sizeOf0
  v0 := Tryz.zeroValue0
  t3 := Tryz.underlying3
  a3 := Tryz.isAgg3
  z3 := Tryz.sizeOf3
  v3 := Tryz.zeroValue3
  t4 := Tryz.underlying4
  a4 := Tryz.isAgg4
  z4 := Tryz.sizeOf4
  v4 := Tryz.zeroValue4
  t5 := Tryz.underlying5
  a5 := Tryz.isAgg5
  z5 := Tryz.sizeOf5
  v5 := Tryz.zeroValue5
  t9 := Tryz.underlying9
  a9 := Tryz.isAgg9
  z9 := Tryz.sizeOf9
  v9 := Tryz.zeroValue9
  t22 := Tryz.underlying25
  a22 := Tryz.isAgg25
  z22 := Tryz.sizeOf25
  v22 := Tryz.zeroValue25
  t23 := Tryz.underlying25
  a23 := Tryz.isAgg25
  z23 := Tryz.sizeOf25
  v23 := Tryz.zeroValue25
  t25 := Tryz.underlying2
  a25 := Tryz.isAgg2
  z25 := Tryz.sizeOf2
  v25 := Tryz.zeroValue2
  t32 := Tryz.underlying294
  a32 := Tryz.isAgg294
  z32 := Tryz.sizeOf294
  v32 := Tryz.zeroValue294
  t35 := Tryz.underlying323
  a35 := Tryz.isAgg323
  z35 := Tryz.sizeOf323
  v35 := Tryz.zeroValue323
  t36 := Tryz.underlying324
  a36 := Tryz.isAgg324
  z36 := Tryz.sizeOf324
  v36 := Tryz.zeroValue324
  t41 := Tryz.underlying204
  a41 := Tryz.isAgg204
  z41 := Tryz.sizeOf204
  v41 := Tryz.zeroValue204
  t44 := Tryz.underlying330
  a44 := Tryz.isAgg330
  z44 := Tryz.sizeOf330
  v44 := Tryz.zeroValue330
  t46 := Tryz.underlying297
  a46 := Tryz.isAgg297
  z46 := Tryz.sizeOf297
  v46 := Tryz.zeroValue297
  t53 := Tryz.underlying338
  a53 := Tryz.isAgg338
  z53 := Tryz.sizeOf338
  v53 := Tryz.zeroValue338
  t57 := Tryz.underlying342
  a57 := Tryz.isAgg342
  z57 := Tryz.sizeOf342
  v57 := Tryz.zeroValue342
  t63 := Tryz.underlying351
  a63 := Tryz.isAgg351
  z63 := Tryz.sizeOf351
  v63 := Tryz.zeroValue351
  t64 := Tryz.underlying352
  a64 := Tryz.isAgg352
  z64 := Tryz.sizeOf352
  v64 := Tryz.zeroValue352
section
attribute [local go_sem] Oper.semAt_some
set_option maxRecDepth 100000 in
set_option maxHeartbeats 2000000 in
theorem values1_w67q (n : Nat) (hn : 1 ≤ n) (l Bs n₀ b off cap : Nat) (zs : List Int) (hreach : zs.length * 8 ≤ 140737488351232) (hb : b < n₀) (w0 : World) (J : List Int → World → Prop) (hB : ∀ pre W1, J pre W1 → Below n₀ w0 W1)
    (hY : ∀ pre x W, J pre W → pre.length < zs.length → YieldAt Fence.wide (n - 1) Tryz.prog l #[.int .i64 x] W fun e W' => e = .returned (.bool true) ∧ J (pre ++ [x]) W' ∧ KeepsWalks W W')
    (W : World) (hBs : W.cell? ⟨Bs, 0, none⟩ = some (.slice (some ⟨b, off, none⟩) zs.length cap)) (hc : ∀ j (h : j < zs.length), w0.cell? ⟨b, off + j, none⟩ = some (.int .i64 zs[j])) (h0 : J [] W) :
    CallsIn Fence.wide n Tryz.prog 308 #[.func (.yield l) #[] #[], .pointer (some ⟨Bs, 0, none⟩)] W fun e W' => (∃ v, e = .returned v) ∧ J zs W' := by
  have hro : Fence.wide.round = none := rfl
  have h7 : Fence.wide.fn 308 := trivial
  refine callsIn_of_wp Tryz.func308 rfl h7 ?_ hro
  simp only [Tryz.ntmps308, List.size_toArray, List.length_cons, List.length_nil, Nat.reduceAdd, Nat.reduceSub, Array.replicate_succ, Array.replicate_zero, List.push_toArray, List.append_toArray, List.nil_append, List.cons_append]
  gi_wp2
  gi_loopw [7] (fun i wr => ∃ k : Nat, k ≤ zs.length ∧ i = .int .i64 k ∧ J (zs.take k) wr)
    (fun i _ => zs.length - (Go.RowKit.intOf i).toNat)
  case atStart => exact ⟨0, Nat.zero_le _, rfl, h0⟩
  case round =>
    obtain ⟨k, hk, rfl, hJs⟩ := hrel
    have hnx := hB _ _ hJs
    by_cases hlt : k < zs.length
    · have hcx : wr.cell? ⟨b, off + k, none⟩ = some (.int .i64 zs[k]) := (hnx.cell (p := ⟨b, off + k, none⟩) hb).trans (hc k hlt)
      obtain ⟨fn, tmps, assign, body, hy, hR⟩ := hY _ zs[k] wr hJs (by rw [List.length_take]; omega)
      generalize hzk : zs[k] = zk at hcx hR hy
      gi_wp2
      refine hR.mono ?_
      rintro e W3 ⟨rfl, hJ3, hk3⟩
      gi_wp2
      go_roundw
      case rel => exact ⟨k + 1, by omega, by simp, by rw [List.take_succ_eq_append_getElem hlt, hzk]; exact hJ3⟩
      case measure => simp [Go.RowKit.intOf]; omega
    · obtain rfl : k = zs.length := by omega
      gi_wp2
      go_end0
      exact ⟨⟨_, rfl⟩, by rw [List.take_length] at hJs; exact hJs⟩
set_option maxRecDepth 100000 in
set_option maxHeartbeats 1000000 in
theorem values0_w67q (n : Nat) (l Bs : Nat) (A : Option Addr) (cap : Nat) (J : List Int → World → Prop) (W : World) (hBs : W.cell? ⟨Bs, 0, none⟩ = some (.slice A 0 cap)) (h0 : J [] W) :
    CallsIn Fence.wide n Tryz.prog 308 #[.func (.yield l) #[] #[], .pointer (some ⟨Bs, 0, none⟩)] W fun e W' => (∃ v, e = .returned v) ∧ J [] W' := by
  have hro : Fence.wide.round = none := rfl
  have h7 : Fence.wide.fn 308 := trivial
  refine callsIn_of_wp Tryz.func308 rfl h7 ?_ hro
  simp only [Tryz.ntmps308, List.size_toArray, List.length_cons, List.length_nil, Nat.reduceAdd, Nat.reduceSub, Array.replicate_succ, Array.replicate_zero, List.push_toArray, List.append_toArray, List.nil_append, List.cons_append]
  gi_wp2
  gi_loopw [7] (fun i wr => i = .int .i64 0 ∧ J [] wr) (fun _ _ => 0)
  case atStart => exact ⟨rfl, h0⟩
  case round =>
    obtain ⟨rfl, hJs⟩ := hrel
    gi_wp2
    go_end0
    exact ⟨⟨_, rfl⟩, hJs⟩
end
theorem sound_w67q : Sound Tryz.prog 248 S_w67q := sound_sorted fun w Bs zs hr hI => callsIn_wide.1 (sortedB lays_w67q 4 (by omega) (sortsWide lays_slices_Sorted_int64s rfl 3) (enters_of Tryz.func307 (by kernel_rfl) rfl) 308 _ (enters_of Tryz.func308 (by kernel_rfl) rfl) zs (by simp only [maxLen]; omega) (by omega) w (fun W hW => gives_of values1_w67q values0_w67q 1 (by omega) W Bs zs hr (hI.below hW)))
theorem ok_w67q : EnvOK Tryz.prog G_w67q := envOK_sound ok_w66q ⟨_, Tryz.func248, by kernel_rfl, by kernel_rfl⟩ sound_w67q
theorem e_w68q (n : Nat) (x) : afun G_w67q T BB 0 n Tryz.f247 a_w68q S_w68q.ps S_w68q.rs x = p_w68q n x := by kernel_rfl
theorem ok_w68q : EnvOK Tryz.prog G_w68q := envOK_cons hm hT ok_w67q Tryz.func247 (by kernel_rfl) hBB fun x r hr => ⟨FU, (e_w68q FU x).trans hr⟩
theorem e_w69q (n : Nat) (x) : afun G_w68q T BB 1 n Tryz.f166 a_w69q S_w69q.ps S_w69q.rs x = p_w69q n x := by kernel_rfl
theorem ok_w69q : EnvOK Tryz.prog G_w69q := envOK_cons hm hT ok_w68q Tryz.func166 (by kernel_rfl) hBB fun x r hr => ⟨FU, (e_w69q FU x).trans hr⟩
theorem e_w70q (n : Nat) (x) : afun G_w69q T BB 6 n Tryz.f252 a_w70q S_w70q.ps S_w70q.rs x = p_w70q n x := by kernel_rfl
theorem ok_w70q : EnvOK Tryz.prog G_w70q := envOK_cons hm hT ok_w69q Tryz.func252 (by kernel_rfl) hBB fun x r hr => ⟨FU, (e_w70q FU x).trans hr⟩
theorem e_w71q (n : Nat) (x) : afun G_w70q T BB 1 n Tryz.f339 a_w71q S_w71q.ps S_w71q.rs x = p_w71q n x := by kernel_rfl
theorem ok_w71q : EnvOK Tryz.prog G_w71q := envOK_cons hm hT ok_w70q Tryz.func339 (by kernel_rfl) hBB fun x r hr => ⟨FU, (e_w71q FU x).trans hr⟩
theorem e_w72q (n : Nat) (x) : afun G_w71q T BB 0 n Tryz.f312 a_w72q S_w72q.ps S_w72q.rs x = p_w72q n x := by kernel_rfl
theorem ok_w72q : EnvOK Tryz.prog G_w72q := envOK_cons hm hT ok_w71q Tryz.func312 (by kernel_rfl) hBB fun x r hr => ⟨FU, (e_w72q FU x).trans hr⟩
theorem e_w73q (n : Nat) (x) : afun G_w72q T BB 0 n Tryz.f253 a_w73q S_w73q.ps S_w73q.rs x = p_w73q n x := by kernel_rfl
theorem ok_w73q : EnvOK Tryz.prog G_w73q := envOK_cons hm hT ok_w72q Tryz.func253 (by kernel_rfl) hBB fun x r hr => ⟨FU, (e_w73q FU x).trans hr⟩
theorem e_w74q (n : Nat) (x) : afun G_w73q T BB 3 n Tryz.f167 a_w74q S_w74q.ps S_w74q.rs x = p_w74q n x := by kernel_rfl
theorem ok_w74q : EnvOK Tryz.prog G_w74q := envOK_cons hm hT ok_w73q Tryz.func167 (by kernel_rfl) hBB fun x r hr => ⟨FU, (e_w74q FU x).trans hr⟩
theorem e_w75q (n : Nat) (x) : afun G_w74q T BB 2 n Tryz.f69 a_w75q S_w75q.ps S_w75q.rs x = p_w75q n x := by kernel_rfl
theorem ok_w75q : EnvOK Tryz.prog G_w75q := envOK_cons hm hT ok_w74q Tryz.func69 (by kernel_rfl) hBB fun x r hr => ⟨FU, (e_w75q FU x).trans hr⟩
theorem e_w76q (n : Nat) (x) : afun G_w75q T BB 0 n Tryz.f254 a_w76q S_w76q.ps S_w76q.rs x = p_w76q n x := by kernel_rfl
theorem ok_w76q : EnvOK Tryz.prog G_w76q := envOK_cons hm hT ok_w75q Tryz.func254 (by kernel_rfl) hBB fun x r hr => ⟨FU, (e_w76q FU x).trans hr⟩
theorem e_w77q (n : Nat) (x) : afun G_w76q T BB 0 n Tryz.f255 a_w77q S_w77q.ps S_w77q.rs x = p_w77q n x := by kernel_rfl
theorem ok_w77q : EnvOK Tryz.prog G_w77q := envOK_cons hm hT ok_w76q Tryz.func255 (by kernel_rfl) hBB fun x r hr => ⟨FU, (e_w77q FU x).trans hr⟩
theorem e_w78q (n : Nat) (x) : afun G_w77q T BB 0 n Tryz.f340 a_w78q S_w78q.ps S_w78q.rs x = p_w78q n x := by kernel_rfl
theorem ok_w78q : EnvOK Tryz.prog G_w78q := envOK_cons hm hT ok_w77q Tryz.func340 (by kernel_rfl) hBB fun x r hr => ⟨FU, (e_w78q FU x).trans hr⟩
theorem e_w79q (n : Nat) (x) : afun G_w78q T BB 0 n Tryz.f313 a_w79q S_w79q.ps S_w79q.rs x = p_w79q n x := by kernel_rfl
theorem ok_w79q : EnvOK Tryz.prog G_w79q := envOK_cons hm hT ok_w78q Tryz.func313 (by kernel_rfl) hBB fun x r hr => ⟨FU, (e_w79q FU x).trans hr⟩
theorem e_w80q (n : Nat) (x) : afun G_w79q T BB 0 n Tryz.f256 a_w80q S_w80q.ps S_w80q.rs x = p_w80q n x := by kernel_rfl
theorem ok_w80q : EnvOK Tryz.prog G_w80q := envOK_cons hm hT ok_w79q Tryz.func256 (by kernel_rfl) hBB fun x r hr => ⟨FU, (e_w80q FU x).trans hr⟩
theorem e_w81q (n : Nat) (x) : afun G_w80q T BB 0 n Tryz.f257 a_w81q S_w81q.ps S_w81q.rs x = p_w81q n x := by kernel_rfl
theorem ok_w81q : EnvOK Tryz.prog G_w81q := envOK_cons hm hT ok_w80q Tryz.func257 (by kernel_rfl) hBB fun x r hr => ⟨FU, (e_w81q FU x).trans hr⟩
theorem e_w82q (n : Nat) (x) : afun G_w81q T BB 0 n Tryz.f169 a_w82q S_w82q.ps S_w82q.rs x = p_w82q n x := by kernel_rfl
theorem ok_w82q : EnvOK Tryz.prog G_w82q := envOK_cons hm hT ok_w81q Tryz.func169 (by kernel_rfl) hBB fun x r hr => ⟨FU, (e_w82q FU x).trans hr⟩
theorem info194_w83q : ∃ i z, Tryz.prog.info? 194 = some i ∧ i.zero = some z ∧ i.size = 2 ∧ i.bytes = 16 ∧ z.cells.size = 2 := by
  have h : (Tryz.prog.info? 194).map (fun i => (i.size, i.bytes, i.zero.map fun z => z.cells.size)) = some (2, 16, some 2) := by kernel_rfl
  cases hi : Tryz.prog.info? 194 with
  | none => rw [hi] at h; cases h
  | some i =>
    rw [hi] at h
    simp only [Option.map_some, Option.some.injEq, Prod.mk.injEq] at h
    obtain ⟨h1, h2, h3⟩ := h
    cases hz : i.zero with
    | none => rw [hz] at h3; cases h3
    | some z =>
      rw [hz] at h3
      exact ⟨i, z, rfl, hz, h1, h2, by simpa using h3⟩
set_option maxHeartbeats 4000000 in
set_option maxRecDepth 100000 in
theorem ins_grow_w83q (w : World) (b n i gv cv : Nat) (cur curv : Array Value) (fl vl : List Value) (hi : i < n) (hbig : (n + 1) * 16 ≤ 140737488355328) (hb : w.heap[b]? = some (.cells cur 194 (0, 0))) (hfl : cur.toList.take (n * 2) = fl) (hfs : fl.length = n * 2)
    (hv : w.heap[gv]? = some (.cells curv 194 (0, 0))) (hvl : curv.toList.take 2 = vl) (hvs : vl.length = 2) (h1c : ∀ v ∈ fl, v.oneCell' = true) (h1v : ∀ v ∈ vl, v.oneCell' = true) :
    Calls Tryz.prog 262 #[.slice (some ⟨b, 0, none⟩) n n, .int .i64 i, .slice (some ⟨gv, 0, none⟩) 1 cv] w fun e w' => ∃ G row, n + 1 ≤ G ∧ G ≤ maxLen ∧ e = .returned (.slice (some ⟨w.heap.size, 0, none⟩) (n + 1) G) ∧
      w'.os = w.os ∧ w'.tape = w.tape ∧ w'.output = w.output ∧ w'.heap = w.heap.push (.cells row 194 (0, 0)) ∧ row.size = G * 2 ∧ row.toList.take ((n + 1) * 2) = insC 2 i fl vl := by
  obtain ⟨i0, z, hi0, hz0, hzs, hzb, hzc⟩ := info194_w83q
  have u63 := Tryz.underlying30
  have hsz : (Tryz.prog.info? 194).map (·.size) = some 2 := by rw [hi0]; simp [hzs]
  have hbl : b < w.heap.size := (Array.getElem?_eq_some_iff.1 hb).1
  have hvb : gv < w.heap.size := (Array.getElem?_eq_some_iff.1 hv).1
  have hz3 : (n : Int) < (n : Int) + 1 := by omega
  have hkk : (n : Int) + 1 - (i : Int) = ((n + 1 - i : Nat) : Int) := by omega
  have hik : i + (n + 1 - i) = n + 1 := by omega
  have hcell : ∀ (W : World), W.heap[b]? = w.heap[b]? → ∀ j v, fl[j]? = some v → W.cell? ⟨b, j, none⟩ = some v := fun W hW j v hj => by
    rw [← hfl, List.getElem?_take] at hj
    split at hj
    · simp only [World.cell?, hW, hb]
      rw [← Array.getElem?_toList]; exact hj
    · cases hj
  have hold : (Builtin.firstCells i0.size i (.slice (some ⟨b, 0, none⟩) i n)).run Tryz.prog w.drew = .ok (fl.take (i * 2)).toArray w.drew := by
    rw [hzs]
    exact run_firstCells_some w.drew 2 i ⟨b, 0, none⟩ i n (fl.take (i * 2)) (by rw [List.length_take]; omega) (fun j v hj => by
      rw [Addr.add_lit, Nat.zero_add]
      rw [List.getElem?_take] at hj
      split at hj
      · exact hcell w.drew rfl j v hj
      · cases hj)
  have hrz : ∀ ty, (Builtin.append_ #[30, 3] ty #[.slice (some ⟨b, 0, none⟩) i n, .int .i64 ((n : Int) + 1 - (i : Int))]).run Tryz.prog w =
      .ok (.slice (some ⟨w.heap.size, 0, none⟩) (n + 1) (grownCap w (n + 1) n 194)) (w.drew.alloc (.cells ((fl.take (i * 2)).toArray ++ Builtin.zeroCells z.cells (n + 1 - i) ++ Builtin.zeroCells z.cells (grownCap w (n + 1) n 194 - (n + 1))) 194)) := fun ty => by
    have h := Lib.run_append_grow_zeros (P := Tryz.prog) w 30 3 ty 194 i0 z .i64 .i64 Tryz.underlying30 Tryz.underlying3 hi0 hz0 (some ⟨b, 0, none⟩) i n (fl.take (i * 2)) hold (n + 1 - i) (by omega) (by omega) (by omega) (by omega) (by rw [hzb]; omega) (by rw [hzb, hik]; exact growslice_fits (by omega) hbig)
    rw [hik] at h
    rw [hkk]
    exact h
  obtain ⟨G, hG⟩ : ∃ G, G = grownCap w (n + 1) n 194 := ⟨_, rfl⟩
  rw [← hG] at hrz
  have hGn : n + 1 ≤ G := by rw [hG]; exact grownCap_ge w _ _ _
  have hG63 : G ≤ maxLen := by rw [hG]; exact grownCap_le_maxLen w (n + 1) n 194 (by unfold maxLen; omega)
  have hGm : G ≤ 9223372036854775807 := by have := hG63; unfold maxLen at this; omega
  obtain ⟨ROW, hROW⟩ : ∃ ROW : Array Value, ROW = (fl.take (i * 2)).toArray ++ Builtin.zeroCells z.cells (n + 1 - i) ++ Builtin.zeroCells z.cells (G - (n + 1)) := ⟨_, rfl⟩
  rw [← hROW] at hrz
  have hRl : ROW.size = G * 2 := by
    rw [hROW]
    simp only [Array.size_append, List.size_toArray, List.length_take, size_zeroCells, hzc]
    omega
  have hRt : ROW.toList.take (i * 2) = fl.take (i * 2) := by
    rw [hROW]
    simp only [Array.toList_append, List.append_assoc]
    rw [List.take_append_of_le_length (by rw [List.length_take]; omega)]
    rw [List.take_of_length_le (by rw [List.length_take]; omega)]
  obtain ⟨row2, hr2⟩ : ∃ row2 : Array Value, row2 = (ROW.toList.take (i * 2) ++ vl ++ ROW.toList.drop (i * 2 + vl.length)).toArray := ⟨_, rfl⟩
  have hr2s : row2.size = G * 2 := by
    rw [hr2]
    simp only [List.size_toArray, List.length_append, List.length_take, List.length_drop, Array.length_toList, hRl, hvs]
    omega
  obtain ⟨row3, hr3⟩ : ∃ row3 : Array Value, row3 = (row2.toList.take ((i + 1) * 2) ++ fl.drop (i * 2) ++ row2.toList.drop ((i + 1) * 2 + (fl.drop (i * 2)).length)).toArray := ⟨_, rfl⟩
  have hr3s : row3.size = G * 2 := by
    rw [hr3]
    simp only [List.size_toArray, List.length_append, List.length_take, List.length_drop, Array.length_toList, hr2s, hfs]
    omega
  have hr3t : row3.toList.take ((n + 1) * 2) = insC 2 i fl vl := by
    have e2 : row2.toList.take ((i + 1) * 2) = fl.take (i * 2) ++ vl := by
      rw [hr2, List.toList_toArray, hRt, List.take_append_of_le_length (by simp only [List.length_append, List.length_take]; omega), List.take_of_length_le (by simp only [List.length_append, List.length_take]; omega)]
    rw [hr3, List.toList_toArray, e2, List.take_append_of_le_length (by simp only [List.length_append, List.length_take, List.length_drop]; omega), List.take_of_length_le (by simp only [List.length_append, List.length_take, List.length_drop]; omega)]
    rfl
  have hcpA : ∀ (W : World), W.heap = w.heap.push (.cells ROW 194 (0, 0)) → ∀ ty dc, (Builtin.copy_ #[30, 30] ty #[.slice (some ⟨w.heap.size, i * 2, none⟩) (n + 1 - i) dc, .slice (some ⟨gv, 0, none⟩) 1 cv]).run Tryz.prog W = .ok (goInt 1) (W.setRow w.heap.size row2) := fun W hW ty dc => by
    have hm : Nat.min 1 (n + 1 - i) = 1 := by simp only [Nat.min_def]; split <;> omega
    have := run_copy_rowK (P := Tryz.prog) W 30 30 ty 194 w.heap.size (i * 2) (n + 1 - i) dc ⟨gv, 0, none⟩ 1 cv ROW 194 vl 2 Tryz.underlying30 hsz (by rw [hW]; simp) (by rw [hm, hvs]) (fun j v hj => by
      rw [Addr.add_lit, Nat.zero_add]
      have hg : W.heap[gv]? = some (.cells curv 194 (0, 0)) := by rw [hW, Array.getElem?_push_lt hvb, ← Array.getElem?_eq_getElem hvb]; exact hv
      rw [← hvl, List.getElem?_take] at hj
      split at hj
      · simp only [World.cell?, hg]
        rw [← Array.getElem?_toList]; exact hj
      · cases hj) (by rw [hvs, hRl]; omega) h1v
    rw [hm] at this
    rw [hr2]; exact this
  have hcpB : ∀ (W : World), W.heap = w.heap.push (.cells row2 194 (0, 0)) → ∀ ty dc sc, (Builtin.copy_ #[30, 30] ty #[.slice (some ⟨w.heap.size, (i + 1) * 2, none⟩) (n + 1 - (i + 1)) dc, .slice (some ⟨b, i * 2, none⟩) (n - i) sc]).run Tryz.prog W = .ok (goInt ((n - i : Nat) : Int)) (W.setRow w.heap.size row3) := fun W hW ty dc sc => by
    have hm : Nat.min (n - i) (n + 1 - (i + 1)) = n - i := by simp only [Nat.min_def]; split <;> omega
    have := run_copy_rowK (P := Tryz.prog) W 30 30 ty 194 w.heap.size ((i + 1) * 2) (n + 1 - (i + 1)) dc ⟨b, i * 2, none⟩ (n - i) sc row2 194 (fl.drop (i * 2)) 2 Tryz.underlying30 hsz (by rw [hW]; simp) (by rw [hm, List.length_drop, hfs]; omega) (fun j v hj => by
      rw [Addr.add_lit]
      rw [List.getElem?_drop] at hj
      exact hcell W (by rw [hW, Array.getElem?_push_lt hbl, ← Array.getElem?_eq_getElem hbl]) _ v hj) (by rw [List.length_drop, hfs, hr2s]; omega) (fun v hv => h1c v (List.mem_of_mem_drop hv))
    rw [hm] at this
    rw [hr3]; exact this
  have hGi : ¬ (G = i) := by omega
  have hni : ¬ (n = i) := by omega
  have mixed : Tryz.prog.follows Departure.mixedOrders = true := by kernel_rfl
  have hGim : ¬ (G = i + 1) := by omega
  have hw1 : IntKind.i64.wrap ((i : Int) + 1) = (i : Int) + 1 := by rw [IntKind.wrap_i64]; omega
  have hb1 : (0 : Int) ≤ (i : Int) + 1 := by omega
  have hin : i ≤ n := by omega
  have htn : ((i : Int) + 1).toNat = i + 1 := by omega
  have hE1 : ((w.alloc (.cells ROW 194)).drew).heap = w.heap.push (.cells ROW 194 (0, 0)) := rfl
  have hF1 : (((w.alloc (.cells ROW 194)).drew.setRow w.heap.size row2).drew).heap = w.heap.push (.cells row2 194 (0, 0)) := heap_setRow_push hE1
  clear hkk hik hold hROW hRl hRt hr2 hr3 hG
  refine Calls.mono (R := fun e w' => e = .returned (.slice (some ⟨w.heap.size, 0, none⟩) (n + 1) G) ∧ w' = (((w.alloc (.cells ROW 194)).drew.setRow w.heap.size row2).drew.setRow w.heap.size row3)) ?_ (fun e w' h => ⟨G, row3, hGn, hG63, h.1, by rw [h.2]; rfl, by rw [h.2]; rfl, by rw [h.2]; rfl, by rw [h.2]; exact heap_setRow_push hF1, hr3s, hr3t⟩)
  go_enter Tryz.func262, Tryz.ntmps262
  go_wp2_with (first
    | (at_builtin; refine Lib.wpList_append_run _ rfl _ _ _ _ rfl _ _ rfl rfl _ _ (hrz _) ?_)
    | (at_builtin; refine wpList_copy_runI _ rfl _ _ 30 30 rfl _ _ rfl rfl (hcpA _ hE1 _ _) ?_))
  go_region_law_o (refine step_copy_runI rfl _ _ 30 30 rfl (.slice (some ⟨w.heap.size, (i + 1) * 2, none⟩) (n + 1 - (i + 1)) (G - (i + 1))) (.slice (some ⟨b, i * 2, none⟩) (n - i) (n - i)) (by simp [Act.eval, Act.put, hni, hGi, hGim]) (by simp [Act.eval, Act.put, hni, hGi, hGim]) (hcpB _ hF1 3 (G - (i + 1)) (n - i)) ?_)
  go_wp2
  go_ret
  exact ⟨rfl, rfl⟩

set_option maxHeartbeats 4000000 in
set_option maxRecDepth 100000 in
theorem ins_room_w83q (w : World) (b n c i gv cv : Nat) (cur curv : Array Value) (fl vl : List Value) (hi : i < n) (hroom : n + 1 ≤ c) (hc63 : c ≤ 9223372036854775807) (hne : gv ≠ b) (hb : w.heap[b]? = some (.cells cur 194 (0, 0))) (hcs : cur.size = c * 2) (hfl : cur.toList.take (n * 2) = fl) (hfs : fl.length = n * 2)
    (hv : w.heap[gv]? = some (.cells curv 194 (0, 0))) (hvl : curv.toList.take 2 = vl) (hvs : vl.length = 2) (h1c : ∀ v ∈ fl, v.oneCell' = true) (h1v : ∀ v ∈ vl, v.oneCell' = true) :
    ∃ row, row.size = c * 2 ∧ row.toList.take ((n + 1) * 2) = insC 2 i fl vl ∧
    Calls Tryz.prog 262 #[.slice (some ⟨b, 0, none⟩) n c, .int .i64 i, .slice (some ⟨gv, 0, none⟩) 1 cv] w fun e w' =>  e = .returned (.slice (some ⟨b, 0, none⟩) (n + 1) c) ∧ w'.os = w.os ∧ w'.tape = w.tape ∧ w'.output = w.output ∧ w'.heap = (w.setRow b row).heap := by
  obtain ⟨i0, z, hi0, hz0, hzs, hzb, hzc⟩ := info194_w83q
  have u63 := Tryz.underlying30
  have hsz : (Tryz.prog.info? 194).map (·.size) = some 2 := by rw [hi0]; simp [hzs]
  have hbl : b < w.heap.size := (Array.getElem?_eq_some_iff.1 hb).1
  have hvb : gv < w.heap.size := (Array.getElem?_eq_some_iff.1 hv).1
  have mixed : Tryz.prog.follows Departure.mixedOrders = true := by kernel_rfl
  have hcell : ∀ (W : World) (cu : Array Value), W.heap[b]? = some (.cells cu 194 (0, 0)) → cu = cur → ∀ j v, fl[j]? = some v → W.cell? ⟨b, j, none⟩ = some v := fun W cu hW hcu j v hj => by
    subst hcu
    rw [← hfl, List.getElem?_take] at hj
    split at hj
    · simp only [World.cell?, hW]
      rw [← Array.getElem?_toList]; exact hj
    · cases hj
  obtain ⟨row1, hr1⟩ : ∃ row1 : Array Value, row1 = (cur.toList.take ((i + 1) * 2) ++ fl.drop (i * 2) ++ cur.toList.drop ((i + 1) * 2 + (fl.drop (i * 2)).length)).toArray := ⟨_, rfl⟩
  have hr1s : row1.size = c * 2 := by
    rw [hr1]
    simp only [List.size_toArray, List.length_append, List.length_take, List.length_drop, Array.length_toList, hcs, hfs]
    omega
  obtain ⟨row2, hr2⟩ : ∃ row2 : Array Value, row2 = (row1.toList.take (i * 2) ++ vl ++ row1.toList.drop (i * 2 + vl.length)).toArray := ⟨_, rfl⟩
  have hr2s : row2.size = c * 2 := by
    rw [hr2]
    simp only [List.size_toArray, List.length_append, List.length_take, List.length_drop, Array.length_toList, hr1s, hvs]
    omega
  have hr2t : row2.toList.take ((n + 1) * 2) = insC 2 i fl vl := by
    have e0 : cur.toList.take (i * 2) = fl.take (i * 2) := by
      rw [← hfl, List.take_take]; congr 1; omega
    have e1 : row1.toList.take (i * 2) = fl.take (i * 2) := by
      rw [hr1, List.toList_toArray, List.append_assoc, List.take_append_of_le_length (by simp only [List.length_take, Array.length_toList, hcs]; omega), List.take_take, ← e0]
      congr 1; omega
    have e2 : row1.toList.drop (i * 2 + vl.length) = fl.drop (i * 2) ++ cur.toList.drop ((i + 1) * 2 + (fl.drop (i * 2)).length) := by
      rw [hr1, List.toList_toArray, List.append_assoc]
      have : (cur.toList.take ((i + 1) * 2)).length = i * 2 + vl.length := by simp only [List.length_take, Array.length_toList, hcs, hvs]; omega
      rw [← this, List.drop_left]
    rw [hr2, List.toList_toArray, e1, e2, ← List.append_assoc, List.take_append_of_le_length (by simp only [List.length_append, List.length_take, List.length_drop]; omega), List.take_of_length_le (by simp only [List.length_append, List.length_take, List.length_drop]; omega)]
    rfl
  have hcp1 : ∀ ty dc sc, (Builtin.copy_ #[30, 30] ty #[.slice (some ⟨b, (i + 1) * 2, none⟩) (n + 1 - (i + 1)) dc, .slice (some ⟨b, i * 2, none⟩) (n + 1 - i) sc]).run Tryz.prog w.drew = .ok (goInt ((n - i : Nat) : Int)) (w.drew.setRow b row1) := fun ty dc sc => by
    have hm : Nat.min (n + 1 - i) (n + 1 - (i + 1)) = n - i := by simp only [Nat.min_def]; split <;> omega
    have := run_copy_rowK (P := Tryz.prog) w.drew 30 30 ty 194 b ((i + 1) * 2) (n + 1 - (i + 1)) dc ⟨b, i * 2, none⟩ (n + 1 - i) sc cur 194 (fl.drop (i * 2)) 2 Tryz.underlying30 hsz hb (by rw [hm, List.length_drop, hfs]; omega) (fun j v hj => by
      rw [Addr.add_lit]
      rw [List.getElem?_drop] at hj
      exact hcell w.drew cur hb rfl _ v hj) (by rw [List.length_drop, hfs, hcs]; omega) (fun v hv => h1c v (List.mem_of_mem_drop hv))
    rw [hm] at this
    rw [hr1]; exact this
  have hcp2 : ∀ (W : World), W.heap = (w.setRow b row1).heap → ∀ ty dc, (Builtin.copy_ #[30, 30] ty #[.slice (some ⟨b, i * 2, none⟩) (n + 1 - i) dc, .slice (some ⟨gv, 0, none⟩) 1 cv]).run Tryz.prog W = .ok (goInt 1) (W.setRow b row2) := fun W hW ty dc => by
    have hm : Nat.min 1 (n + 1 - i) = 1 := by simp only [Nat.min_def]; split <;> omega
    have := run_copy_rowK (P := Tryz.prog) W 30 30 ty 194 b (i * 2) (n + 1 - i) dc ⟨gv, 0, none⟩ 1 cv row1 194 vl 2 Tryz.underlying30 hsz (by rw [hW]; exact set_row_some hb) (by rw [hm, hvs]) (fun j v hj => by
      rw [Addr.add_lit, Nat.zero_add]
      have hg : W.heap[gv]? = some (.cells curv 194 (0, 0)) := by rw [hW, setRow_other w b gv row1 hne]; exact hv
      rw [← hvl, List.getElem?_take] at hj
      split at hj
      · simp only [World.cell?, hg]
        rw [← Array.getElem?_toList]; exact hj
      · cases hj) (by rw [hvs, hr1s]; omega) h1v
    rw [hm] at this
    rw [hr2]; exact this
  have hov : ∀ lb cb, (callFunc 317 #[.slice (some ⟨gv, 0, none⟩) 1 cv, .slice (some ⟨b, (i + 1) * 2, none⟩) lb cb]).run Tryz.prog w = .ok (.value (.bool false)) w := fun lb cb => by
    rw [run_callFunc_extern Tryz.func317 (by kernel_rfl) (by kernel_rfl) (by kernel_rfl) (e := Extern.SlicesOverlaps.overlaps #[30, 30] #[4]) (by kernel_rfl),
      Lib.run_overlaps_apart w 30 4 194 Tryz.underlying30 2 (fun w => by simp [sizeOf, typeInfo, hi0, hzs]) ⟨gv, 0, none⟩ ⟨b, (i + 1) * 2, none⟩ 1 cv lb cb hne 194 194 curv.size cur.size (by simp only [World.shape?, hv]) (by simp only [World.shape?, hb]) (by rw [hcs]; omega) (by simp [World.frozen?, hv]) (by simp [World.frozen?, hv])]
    rfl
  have hz2 : ¬ ((i : Int) = (n : Int)) := by omega
  have hw1 : IntKind.i64.wrap ((i : Int) + 1) = (i : Int) + 1 := by rw [IntKind.wrap_i64]; omega
  have hb1 : (0 : Int) ≤ (i : Int) + 1 := by omega
  have hin : i ≤ n := by omega
  have htn : ((i : Int) + 1).toNat = i + 1 := by omega
  have hb2 : ¬ (c = i + 1) := by omega
  have hb3 : (i : Int) ≤ (n : Int) + 1 := by omega
  have hb4 : ¬ (c = i) := by omega
  have hF1 : (w.drew.setRow b row1).heap = (w.setRow b row1).heap := rfl
  refine ⟨row2, hr2s, hr2t, Calls.mono (R := fun e w' => e = .returned (.slice (some ⟨b, 0, none⟩) (n + 1) c) ∧ w' = ((w.drew.setRow b row1).setRow b row2)) ?_ (fun e w' h => ⟨h.1, by rw [h.2]; rfl, by rw [h.2]; rfl, by rw [h.2]; rfl, by rw [h.2]; show ((w.setRow b row1).setRow b row2).heap = _; rw [setRow_setRow]⟩)⟩
  clear hr1 hr2 hr1s hr2s hr2t
  go_enter Tryz.func262, Tryz.ntmps262
  go_wp2_with (simp only [hov])
  go_region_law_o (refine step_copy_runI rfl _ _ 30 30 rfl (.slice (some ⟨b, (i + 1) * 2, none⟩) (n + 1 - (i + 1)) (c - (i + 1))) (.slice (some ⟨b, i * 2, none⟩) (n + 1 - i) (c - i)) (by simp [Act.eval, Act.put, hb2, hb4]) (by simp [Act.eval, Act.put, hb2, hb4]) (hcp1 3 (c - (i + 1)) (c - i)) ?_)
  go_wp2_with (at_builtin; refine wpList_copy_runI _ rfl _ _ 30 30 rfl _ _ rfl rfl (hcp2 _ hF1 _ _) ?_)
  go_ret
  exact ⟨rfl, rfl⟩

set_option maxHeartbeats 4000000 in
set_option maxRecDepth 100000 in
theorem ins_end_w83q (w : World) (v : Value) (n gv cv : Nat) (curv : Array Value) (fl vl : List Value) (hn63 : n + 1 ≤ maxLen) (hbig : (n + 1) * 16 ≤ 140737488355328) (how : Go.Rv.Own w 194 2 v n fl)
    (hv : w.heap[gv]? = some (.cells curv 194 (0, 0))) (hvl : curv.toList.take 2 = vl) (hvs : vl.length = 2) (h1v : ∀ v ∈ vl, v.oneCell' = true) :
    ∃ v' w', Go.Rv.Own w' 194 2 v' (n + 1) (fl ++ vl) ∧ w.grownBy w' (ownB v) ∧ (∀ g, ownB v' = some g → w.heap.size ≤ g ∨ ownB v = some g) ∧ 
    Calls Tryz.prog 262 #[v, .int .i64 n, .slice (some ⟨gv, 0, none⟩) 1 cv] w fun e w1 =>  e = .returned v' ∧ w1 = w' := by
  obtain ⟨i0, z, hi0, hz0, hzs, hzb, hzc⟩ := info194_w83q
  have u63 := Tryz.underlying30
  have mixed : Tryz.prog.follows Departure.mixedOrders = true := by kernel_rfl
  obtain ⟨v', w', hrun, ho, hgr, hblk⟩ := run_append_Own (P := Tryz.prog) (w := w) (t := 30) (ty := 30) Tryz.underlying30 hi0 hz0 hzs hzb hzc (by decide) how ⟨gv, 0, none⟩ 1 cv vl (by rw [hvs]) (fun j u hj => by
    rw [Addr.add_lit, Nat.zero_add]
    rw [← hvl, List.getElem?_take] at hj
    split at hj
    · simp only [World.cell?, hv]
      rw [← Array.getElem?_toList]; exact hj
    · cases hj) h1v hn63 hbig
  refine ⟨v', w', ho, hgr, hblk, ?_⟩
  rcases how.2 with ⟨A, rfl, rfl⟩ | ⟨b, cap, cur, rfl, hb, hcb, hnc, hcm, hcs, htk⟩
  · cases A with
    | none =>
      clear ho hgr hblk how
      go_enter Tryz.func262, Tryz.ntmps262
      go_wp2_with (at_builtin; refine Lib.wpList_append_run _ rfl _ _ _ _ rfl _ _ rfl rfl _ _ hrun ?_)
      go_ret
      exact ⟨rfl, rfl⟩
    | some a0 =>
      obtain ⟨a1, a2, a3⟩ := a0
      clear ho hgr hblk how
      go_enter Tryz.func262, Tryz.ntmps262
      go_wp2_with (at_builtin; refine Lib.wpList_append_run _ rfl _ _ _ _ rfl _ _ rfl rfl _ _ hrun ?_)
      go_ret
      exact ⟨rfl, rfl⟩
  · have hc2 : cap ≤ 9223372036854775807 := hcm
    clear ho hgr hblk how
    go_enter Tryz.func262, Tryz.ntmps262
    go_wp2_with (at_builtin; refine Lib.wpList_append_run _ rfl _ _ _ _ rfl _ _ rfl rfl _ _ hrun ?_)
    all_goals (go_ret; exact ⟨rfl, rfl⟩)

theorem ins_walk_w83q : InsWalk Tryz.prog 262 194 2 16 := by
  intro w v0 v1 n i fl vl h0 h1 hi hbig one0 one1 hne
  have hn63 : n + 1 ≤ maxLen := by simp only [maxLen]; omega
  rcases h1.2 with ⟨A, rfl, h⟩ | ⟨gv, cv, curv, rfl, hcv, hv, hv1, hv2, hv3, hvl⟩
  · cases h
  have hvs : vl.length = 2 := by rw [h1.1]
  rw [Nat.one_mul] at hvl
  by_cases hin : i = n
  · subst hin
    obtain ⟨v', w', k1, k2, k3, k4⟩ := ins_end_w83q w v0 i gv cv curv fl vl hn63 hbig h0 hv hvl hvs one1
    refine k4.mono ?_
    rintro en w1 ⟨rfl, rfl⟩
    refine ⟨v', rfl, ?_, k2, k3⟩
    have : insC 2 i fl vl = fl ++ vl := by
      unfold insC
      rw [← h0.1, List.take_length, List.drop_length, List.append_nil]
    rw [this]; exact k1
  · rcases h0.2 with ⟨A, rfl, h⟩ | ⟨b, cap, cur, rfl, hcb, hb, hnc, hcm, hcs, htk⟩
    · omega
    · have hgb : gv ≠ b := fun h => hne b (ownB_of hcb) (by rw [h]; exact ownB_of hcv)
      have hlen : (insC 2 i fl vl).length = (n + 1) * 2 := by
        simp only [insC, List.length_append, List.length_take, List.length_drop, h0.1, hvs]
        omega
      by_cases hroom : n + 1 ≤ cap
      · obtain ⟨row, r1, r2, r3⟩ := ins_room_w83q w b n cap i gv cv cur curv fl vl (by omega) hroom hcm hgb hb hcs htk h0.1 hv hvl hvs one0 one1
        refine r3.mono ?_
        rintro en w1 ⟨rfl, q1, q2, q3, q4⟩
        refine ⟨_, rfl, ⟨hlen, .inr ⟨b, cap, row, rfl, hcb, by rw [q4]; exact set_row_some hb, hroom, hcm, r1, r2⟩⟩, ⟨q1, q2, q3, by rw [q4]; simp, fun k hk hne => by rw [q4]; exact setRow_other w b k row (fun he => hne (by rw [he]; exact (ownB_of hcb).symm))⟩, fun g hg => .inr ?_⟩
        rw [ownB_of hcb] at hg ⊢
        exact hg
      · have hcn : cap = n := by omega
        subst hcn
        refine (ins_grow_w83q w b cap i gv cv cur curv fl vl (by omega) hbig hb htk h0.1 hv hvl hvs one0 one1).mono ?_
        rintro en w1 ⟨G, row, g1, g2, rfl, q1, q2, q3, q4, q5, q6⟩
        refine ⟨_, rfl, ⟨hlen, .inr ⟨w.heap.size, G, row, rfl, by omega, by rw [q4]; simp, g1, g2, q5, q6⟩⟩, ⟨q1, q2, q3, by rw [q4]; simp, fun k hk _ => by rw [q4, Array.getElem?_push_lt hk, ← Array.getElem?_eq_getElem hk]⟩, fun g hg => .inl ?_⟩
        rw [ownB_of (by omega)] at hg
        cases hg; exact Nat.le_refl _
theorem sound_w83q : Sound Tryz.prog 262 S_w83q := sound_ins ins_walk_w83q
theorem ok_w83q : EnvOK Tryz.prog G_w83q := envOK_sound ok_w82q ⟨_, Tryz.func262, by kernel_rfl, by kernel_rfl⟩ sound_w83q
theorem e_w84q (n : Nat) (x) : afun G_w83q T BB 0 n Tryz.f172 a_w84q S_w84q.ps S_w84q.rs x = p_w84q n x := by kernel_rfl
theorem ok_w84q : EnvOK Tryz.prog G_w84q := envOK_cons hm hT ok_w83q Tryz.func172 (by kernel_rfl) hBB fun x r hr => ⟨FU, (e_w84q FU x).trans hr⟩
theorem info190_w85q : ∃ i z, Tryz.prog.info? 190 = some i ∧ i.zero = some z ∧ i.size = 3 ∧ i.bytes = 24 ∧ z.cells.size = 3 := by
  have h : (Tryz.prog.info? 190).map (fun i => (i.size, i.bytes, i.zero.map fun z => z.cells.size)) = some (3, 24, some 3) := by kernel_rfl
  cases hi : Tryz.prog.info? 190 with
  | none => rw [hi] at h; cases h
  | some i =>
    rw [hi] at h
    simp only [Option.map_some, Option.some.injEq, Prod.mk.injEq] at h
    obtain ⟨h1, h2, h3⟩ := h
    cases hz : i.zero with
    | none => rw [hz] at h3; cases h3
    | some z =>
      rw [hz] at h3
      exact ⟨i, z, rfl, hz, h1, h2, by simpa using h3⟩
set_option maxHeartbeats 4000000 in
set_option maxRecDepth 100000 in
theorem ins_grow_w85q (w : World) (b n i gv cv : Nat) (cur curv : Array Value) (fl vl : List Value) (hi : i < n) (hbig : (n + 1) * 24 ≤ 140737488355328) (hb : w.heap[b]? = some (.cells cur 190 (0, 0))) (hfl : cur.toList.take (n * 3) = fl) (hfs : fl.length = n * 3)
    (hv : w.heap[gv]? = some (.cells curv 190 (0, 0))) (hvl : curv.toList.take 3 = vl) (hvs : vl.length = 3) (h1c : ∀ v ∈ fl, v.oneCell' = true) (h1v : ∀ v ∈ vl, v.oneCell' = true) :
    Calls Tryz.prog 264 #[.slice (some ⟨b, 0, none⟩) n n, .int .i64 i, .slice (some ⟨gv, 0, none⟩) 1 cv] w fun e w' => ∃ G row, n + 1 ≤ G ∧ G ≤ maxLen ∧ e = .returned (.slice (some ⟨w.heap.size, 0, none⟩) (n + 1) G) ∧
      w'.os = w.os ∧ w'.tape = w.tape ∧ w'.output = w.output ∧ w'.heap = w.heap.push (.cells row 190 (0, 0)) ∧ row.size = G * 3 ∧ row.toList.take ((n + 1) * 3) = insC 3 i fl vl := by
  obtain ⟨i0, z, hi0, hz0, hzs, hzb, hzc⟩ := info190_w85q
  have u63 := Tryz.underlying29
  have hsz : (Tryz.prog.info? 190).map (·.size) = some 3 := by rw [hi0]; simp [hzs]
  have hbl : b < w.heap.size := (Array.getElem?_eq_some_iff.1 hb).1
  have hvb : gv < w.heap.size := (Array.getElem?_eq_some_iff.1 hv).1
  have hz3 : (n : Int) < (n : Int) + 1 := by omega
  have hkk : (n : Int) + 1 - (i : Int) = ((n + 1 - i : Nat) : Int) := by omega
  have hik : i + (n + 1 - i) = n + 1 := by omega
  have hcell : ∀ (W : World), W.heap[b]? = w.heap[b]? → ∀ j v, fl[j]? = some v → W.cell? ⟨b, j, none⟩ = some v := fun W hW j v hj => by
    rw [← hfl, List.getElem?_take] at hj
    split at hj
    · simp only [World.cell?, hW, hb]
      rw [← Array.getElem?_toList]; exact hj
    · cases hj
  have hold : (Builtin.firstCells i0.size i (.slice (some ⟨b, 0, none⟩) i n)).run Tryz.prog w.drew = .ok (fl.take (i * 3)).toArray w.drew := by
    rw [hzs]
    exact run_firstCells_some w.drew 3 i ⟨b, 0, none⟩ i n (fl.take (i * 3)) (by rw [List.length_take]; omega) (fun j v hj => by
      rw [Addr.add_lit, Nat.zero_add]
      rw [List.getElem?_take] at hj
      split at hj
      · exact hcell w.drew rfl j v hj
      · cases hj)
  have hrz : ∀ ty, (Builtin.append_ #[29, 3] ty #[.slice (some ⟨b, 0, none⟩) i n, .int .i64 ((n : Int) + 1 - (i : Int))]).run Tryz.prog w =
      .ok (.slice (some ⟨w.heap.size, 0, none⟩) (n + 1) (grownCap w (n + 1) n 190)) (w.drew.alloc (.cells ((fl.take (i * 3)).toArray ++ Builtin.zeroCells z.cells (n + 1 - i) ++ Builtin.zeroCells z.cells (grownCap w (n + 1) n 190 - (n + 1))) 190)) := fun ty => by
    have h := Lib.run_append_grow_zeros (P := Tryz.prog) w 29 3 ty 190 i0 z .i64 .i64 Tryz.underlying29 Tryz.underlying3 hi0 hz0 (some ⟨b, 0, none⟩) i n (fl.take (i * 3)) hold (n + 1 - i) (by omega) (by omega) (by omega) (by omega) (by rw [hzb]; omega) (by rw [hzb, hik]; exact growslice_fits (by omega) hbig)
    rw [hik] at h
    rw [hkk]
    exact h
  obtain ⟨G, hG⟩ : ∃ G, G = grownCap w (n + 1) n 190 := ⟨_, rfl⟩
  rw [← hG] at hrz
  have hGn : n + 1 ≤ G := by rw [hG]; exact grownCap_ge w _ _ _
  have hG63 : G ≤ maxLen := by rw [hG]; exact grownCap_le_maxLen w (n + 1) n 190 (by unfold maxLen; omega)
  have hGm : G ≤ 9223372036854775807 := by have := hG63; unfold maxLen at this; omega
  obtain ⟨ROW, hROW⟩ : ∃ ROW : Array Value, ROW = (fl.take (i * 3)).toArray ++ Builtin.zeroCells z.cells (n + 1 - i) ++ Builtin.zeroCells z.cells (G - (n + 1)) := ⟨_, rfl⟩
  rw [← hROW] at hrz
  have hRl : ROW.size = G * 3 := by
    rw [hROW]
    simp only [Array.size_append, List.size_toArray, List.length_take, size_zeroCells, hzc]
    omega
  have hRt : ROW.toList.take (i * 3) = fl.take (i * 3) := by
    rw [hROW]
    simp only [Array.toList_append, List.append_assoc]
    rw [List.take_append_of_le_length (by rw [List.length_take]; omega)]
    rw [List.take_of_length_le (by rw [List.length_take]; omega)]
  obtain ⟨row2, hr2⟩ : ∃ row2 : Array Value, row2 = (ROW.toList.take (i * 3) ++ vl ++ ROW.toList.drop (i * 3 + vl.length)).toArray := ⟨_, rfl⟩
  have hr2s : row2.size = G * 3 := by
    rw [hr2]
    simp only [List.size_toArray, List.length_append, List.length_take, List.length_drop, Array.length_toList, hRl, hvs]
    omega
  obtain ⟨row3, hr3⟩ : ∃ row3 : Array Value, row3 = (row2.toList.take ((i + 1) * 3) ++ fl.drop (i * 3) ++ row2.toList.drop ((i + 1) * 3 + (fl.drop (i * 3)).length)).toArray := ⟨_, rfl⟩
  have hr3s : row3.size = G * 3 := by
    rw [hr3]
    simp only [List.size_toArray, List.length_append, List.length_take, List.length_drop, Array.length_toList, hr2s, hfs]
    omega
  have hr3t : row3.toList.take ((n + 1) * 3) = insC 3 i fl vl := by
    have e2 : row2.toList.take ((i + 1) * 3) = fl.take (i * 3) ++ vl := by
      rw [hr2, List.toList_toArray, hRt, List.take_append_of_le_length (by simp only [List.length_append, List.length_take]; omega), List.take_of_length_le (by simp only [List.length_append, List.length_take]; omega)]
    rw [hr3, List.toList_toArray, e2, List.take_append_of_le_length (by simp only [List.length_append, List.length_take, List.length_drop]; omega), List.take_of_length_le (by simp only [List.length_append, List.length_take, List.length_drop]; omega)]
    rfl
  have hcpA : ∀ (W : World), W.heap = w.heap.push (.cells ROW 190 (0, 0)) → ∀ ty dc, (Builtin.copy_ #[29, 29] ty #[.slice (some ⟨w.heap.size, i * 3, none⟩) (n + 1 - i) dc, .slice (some ⟨gv, 0, none⟩) 1 cv]).run Tryz.prog W = .ok (goInt 1) (W.setRow w.heap.size row2) := fun W hW ty dc => by
    have hm : Nat.min 1 (n + 1 - i) = 1 := by simp only [Nat.min_def]; split <;> omega
    have := run_copy_rowK (P := Tryz.prog) W 29 29 ty 190 w.heap.size (i * 3) (n + 1 - i) dc ⟨gv, 0, none⟩ 1 cv ROW 190 vl 3 Tryz.underlying29 hsz (by rw [hW]; simp) (by rw [hm, hvs]) (fun j v hj => by
      rw [Addr.add_lit, Nat.zero_add]
      have hg : W.heap[gv]? = some (.cells curv 190 (0, 0)) := by rw [hW, Array.getElem?_push_lt hvb, ← Array.getElem?_eq_getElem hvb]; exact hv
      rw [← hvl, List.getElem?_take] at hj
      split at hj
      · simp only [World.cell?, hg]
        rw [← Array.getElem?_toList]; exact hj
      · cases hj) (by rw [hvs, hRl]; omega) h1v
    rw [hm] at this
    rw [hr2]; exact this
  have hcpB : ∀ (W : World), W.heap = w.heap.push (.cells row2 190 (0, 0)) → ∀ ty dc sc, (Builtin.copy_ #[29, 29] ty #[.slice (some ⟨w.heap.size, (i + 1) * 3, none⟩) (n + 1 - (i + 1)) dc, .slice (some ⟨b, i * 3, none⟩) (n - i) sc]).run Tryz.prog W = .ok (goInt ((n - i : Nat) : Int)) (W.setRow w.heap.size row3) := fun W hW ty dc sc => by
    have hm : Nat.min (n - i) (n + 1 - (i + 1)) = n - i := by simp only [Nat.min_def]; split <;> omega
    have := run_copy_rowK (P := Tryz.prog) W 29 29 ty 190 w.heap.size ((i + 1) * 3) (n + 1 - (i + 1)) dc ⟨b, i * 3, none⟩ (n - i) sc row2 190 (fl.drop (i * 3)) 3 Tryz.underlying29 hsz (by rw [hW]; simp) (by rw [hm, List.length_drop, hfs]; omega) (fun j v hj => by
      rw [Addr.add_lit]
      rw [List.getElem?_drop] at hj
      exact hcell W (by rw [hW, Array.getElem?_push_lt hbl, ← Array.getElem?_eq_getElem hbl]) _ v hj) (by rw [List.length_drop, hfs, hr2s]; omega) (fun v hv => h1c v (List.mem_of_mem_drop hv))
    rw [hm] at this
    rw [hr3]; exact this
  have hGi : ¬ (G = i) := by omega
  have hni : ¬ (n = i) := by omega
  have mixed : Tryz.prog.follows Departure.mixedOrders = true := by kernel_rfl
  have hGim : ¬ (G = i + 1) := by omega
  have hw1 : IntKind.i64.wrap ((i : Int) + 1) = (i : Int) + 1 := by rw [IntKind.wrap_i64]; omega
  have hb1 : (0 : Int) ≤ (i : Int) + 1 := by omega
  have hin : i ≤ n := by omega
  have htn : ((i : Int) + 1).toNat = i + 1 := by omega
  have hE1 : ((w.alloc (.cells ROW 190)).drew).heap = w.heap.push (.cells ROW 190 (0, 0)) := rfl
  have hF1 : (((w.alloc (.cells ROW 190)).drew.setRow w.heap.size row2).drew).heap = w.heap.push (.cells row2 190 (0, 0)) := heap_setRow_push hE1
  clear hkk hik hold hROW hRl hRt hr2 hr3 hG
  refine Calls.mono (R := fun e w' => e = .returned (.slice (some ⟨w.heap.size, 0, none⟩) (n + 1) G) ∧ w' = (((w.alloc (.cells ROW 190)).drew.setRow w.heap.size row2).drew.setRow w.heap.size row3)) ?_ (fun e w' h => ⟨G, row3, hGn, hG63, h.1, by rw [h.2]; rfl, by rw [h.2]; rfl, by rw [h.2]; rfl, by rw [h.2]; exact heap_setRow_push hF1, hr3s, hr3t⟩)
  go_enter Tryz.func264, Tryz.ntmps264
  go_wp2_with (first
    | (at_builtin; refine Lib.wpList_append_run _ rfl _ _ _ _ rfl _ _ rfl rfl _ _ (hrz _) ?_)
    | (at_builtin; refine wpList_copy_runI _ rfl _ _ 29 29 rfl _ _ rfl rfl (hcpA _ hE1 _ _) ?_))
  go_region_law_o (refine step_copy_runI rfl _ _ 29 29 rfl (.slice (some ⟨w.heap.size, (i + 1) * 3, none⟩) (n + 1 - (i + 1)) (G - (i + 1))) (.slice (some ⟨b, i * 3, none⟩) (n - i) (n - i)) (by simp [Act.eval, Act.put, hni, hGi, hGim]) (by simp [Act.eval, Act.put, hni, hGi, hGim]) (hcpB _ hF1 3 (G - (i + 1)) (n - i)) ?_)
  go_wp2
  go_ret
  exact ⟨rfl, rfl⟩

set_option maxHeartbeats 4000000 in
set_option maxRecDepth 100000 in
theorem ins_room_w85q (w : World) (b n c i gv cv : Nat) (cur curv : Array Value) (fl vl : List Value) (hi : i < n) (hroom : n + 1 ≤ c) (hc63 : c ≤ 9223372036854775807) (hne : gv ≠ b) (hb : w.heap[b]? = some (.cells cur 190 (0, 0))) (hcs : cur.size = c * 3) (hfl : cur.toList.take (n * 3) = fl) (hfs : fl.length = n * 3)
    (hv : w.heap[gv]? = some (.cells curv 190 (0, 0))) (hvl : curv.toList.take 3 = vl) (hvs : vl.length = 3) (h1c : ∀ v ∈ fl, v.oneCell' = true) (h1v : ∀ v ∈ vl, v.oneCell' = true) :
    ∃ row, row.size = c * 3 ∧ row.toList.take ((n + 1) * 3) = insC 3 i fl vl ∧
    Calls Tryz.prog 264 #[.slice (some ⟨b, 0, none⟩) n c, .int .i64 i, .slice (some ⟨gv, 0, none⟩) 1 cv] w fun e w' =>  e = .returned (.slice (some ⟨b, 0, none⟩) (n + 1) c) ∧ w'.os = w.os ∧ w'.tape = w.tape ∧ w'.output = w.output ∧ w'.heap = (w.setRow b row).heap := by
  obtain ⟨i0, z, hi0, hz0, hzs, hzb, hzc⟩ := info190_w85q
  have u63 := Tryz.underlying29
  have hsz : (Tryz.prog.info? 190).map (·.size) = some 3 := by rw [hi0]; simp [hzs]
  have hbl : b < w.heap.size := (Array.getElem?_eq_some_iff.1 hb).1
  have hvb : gv < w.heap.size := (Array.getElem?_eq_some_iff.1 hv).1
  have mixed : Tryz.prog.follows Departure.mixedOrders = true := by kernel_rfl
  have hcell : ∀ (W : World) (cu : Array Value), W.heap[b]? = some (.cells cu 190 (0, 0)) → cu = cur → ∀ j v, fl[j]? = some v → W.cell? ⟨b, j, none⟩ = some v := fun W cu hW hcu j v hj => by
    subst hcu
    rw [← hfl, List.getElem?_take] at hj
    split at hj
    · simp only [World.cell?, hW]
      rw [← Array.getElem?_toList]; exact hj
    · cases hj
  obtain ⟨row1, hr1⟩ : ∃ row1 : Array Value, row1 = (cur.toList.take ((i + 1) * 3) ++ fl.drop (i * 3) ++ cur.toList.drop ((i + 1) * 3 + (fl.drop (i * 3)).length)).toArray := ⟨_, rfl⟩
  have hr1s : row1.size = c * 3 := by
    rw [hr1]
    simp only [List.size_toArray, List.length_append, List.length_take, List.length_drop, Array.length_toList, hcs, hfs]
    omega
  obtain ⟨row2, hr2⟩ : ∃ row2 : Array Value, row2 = (row1.toList.take (i * 3) ++ vl ++ row1.toList.drop (i * 3 + vl.length)).toArray := ⟨_, rfl⟩
  have hr2s : row2.size = c * 3 := by
    rw [hr2]
    simp only [List.size_toArray, List.length_append, List.length_take, List.length_drop, Array.length_toList, hr1s, hvs]
    omega
  have hr2t : row2.toList.take ((n + 1) * 3) = insC 3 i fl vl := by
    have e0 : cur.toList.take (i * 3) = fl.take (i * 3) := by
      rw [← hfl, List.take_take]; congr 1; omega
    have e1 : row1.toList.take (i * 3) = fl.take (i * 3) := by
      rw [hr1, List.toList_toArray, List.append_assoc, List.take_append_of_le_length (by simp only [List.length_take, Array.length_toList, hcs]; omega), List.take_take, ← e0]
      congr 1; omega
    have e2 : row1.toList.drop (i * 3 + vl.length) = fl.drop (i * 3) ++ cur.toList.drop ((i + 1) * 3 + (fl.drop (i * 3)).length) := by
      rw [hr1, List.toList_toArray, List.append_assoc]
      have : (cur.toList.take ((i + 1) * 3)).length = i * 3 + vl.length := by simp only [List.length_take, Array.length_toList, hcs, hvs]; omega
      rw [← this, List.drop_left]
    rw [hr2, List.toList_toArray, e1, e2, ← List.append_assoc, List.take_append_of_le_length (by simp only [List.length_append, List.length_take, List.length_drop]; omega), List.take_of_length_le (by simp only [List.length_append, List.length_take, List.length_drop]; omega)]
    rfl
  have hcp1 : ∀ ty dc sc, (Builtin.copy_ #[29, 29] ty #[.slice (some ⟨b, (i + 1) * 3, none⟩) (n + 1 - (i + 1)) dc, .slice (some ⟨b, i * 3, none⟩) (n + 1 - i) sc]).run Tryz.prog w.drew = .ok (goInt ((n - i : Nat) : Int)) (w.drew.setRow b row1) := fun ty dc sc => by
    have hm : Nat.min (n + 1 - i) (n + 1 - (i + 1)) = n - i := by simp only [Nat.min_def]; split <;> omega
    have := run_copy_rowK (P := Tryz.prog) w.drew 29 29 ty 190 b ((i + 1) * 3) (n + 1 - (i + 1)) dc ⟨b, i * 3, none⟩ (n + 1 - i) sc cur 190 (fl.drop (i * 3)) 3 Tryz.underlying29 hsz hb (by rw [hm, List.length_drop, hfs]; omega) (fun j v hj => by
      rw [Addr.add_lit]
      rw [List.getElem?_drop] at hj
      exact hcell w.drew cur hb rfl _ v hj) (by rw [List.length_drop, hfs, hcs]; omega) (fun v hv => h1c v (List.mem_of_mem_drop hv))
    rw [hm] at this
    rw [hr1]; exact this
  have hcp2 : ∀ (W : World), W.heap = (w.setRow b row1).heap → ∀ ty dc, (Builtin.copy_ #[29, 29] ty #[.slice (some ⟨b, i * 3, none⟩) (n + 1 - i) dc, .slice (some ⟨gv, 0, none⟩) 1 cv]).run Tryz.prog W = .ok (goInt 1) (W.setRow b row2) := fun W hW ty dc => by
    have hm : Nat.min 1 (n + 1 - i) = 1 := by simp only [Nat.min_def]; split <;> omega
    have := run_copy_rowK (P := Tryz.prog) W 29 29 ty 190 b (i * 3) (n + 1 - i) dc ⟨gv, 0, none⟩ 1 cv row1 190 vl 3 Tryz.underlying29 hsz (by rw [hW]; exact set_row_some hb) (by rw [hm, hvs]) (fun j v hj => by
      rw [Addr.add_lit, Nat.zero_add]
      have hg : W.heap[gv]? = some (.cells curv 190 (0, 0)) := by rw [hW, setRow_other w b gv row1 hne]; exact hv
      rw [← hvl, List.getElem?_take] at hj
      split at hj
      · simp only [World.cell?, hg]
        rw [← Array.getElem?_toList]; exact hj
      · cases hj) (by rw [hvs, hr1s]; omega) h1v
    rw [hm] at this
    rw [hr2]; exact this
  have hov : ∀ lb cb, (callFunc 319 #[.slice (some ⟨gv, 0, none⟩) 1 cv, .slice (some ⟨b, (i + 1) * 3, none⟩) lb cb]).run Tryz.prog w = .ok (.value (.bool false)) w := fun lb cb => by
    rw [run_callFunc_extern Tryz.func319 (by kernel_rfl) (by kernel_rfl) (by kernel_rfl) (e := Extern.SlicesOverlaps.overlaps #[29, 29] #[4]) (by kernel_rfl),
      Lib.run_overlaps_apart w 29 4 190 Tryz.underlying29 3 (fun w => by simp [sizeOf, typeInfo, hi0, hzs]) ⟨gv, 0, none⟩ ⟨b, (i + 1) * 3, none⟩ 1 cv lb cb hne 190 190 curv.size cur.size (by simp only [World.shape?, hv]) (by simp only [World.shape?, hb]) (by rw [hcs]; omega) (by simp [World.frozen?, hv]) (by simp [World.frozen?, hv])]
    rfl
  have hz2 : ¬ ((i : Int) = (n : Int)) := by omega
  have hw1 : IntKind.i64.wrap ((i : Int) + 1) = (i : Int) + 1 := by rw [IntKind.wrap_i64]; omega
  have hb1 : (0 : Int) ≤ (i : Int) + 1 := by omega
  have hin : i ≤ n := by omega
  have htn : ((i : Int) + 1).toNat = i + 1 := by omega
  have hb2 : ¬ (c = i + 1) := by omega
  have hb3 : (i : Int) ≤ (n : Int) + 1 := by omega
  have hb4 : ¬ (c = i) := by omega
  have hF1 : (w.drew.setRow b row1).heap = (w.setRow b row1).heap := rfl
  refine ⟨row2, hr2s, hr2t, Calls.mono (R := fun e w' => e = .returned (.slice (some ⟨b, 0, none⟩) (n + 1) c) ∧ w' = ((w.drew.setRow b row1).setRow b row2)) ?_ (fun e w' h => ⟨h.1, by rw [h.2]; rfl, by rw [h.2]; rfl, by rw [h.2]; rfl, by rw [h.2]; show ((w.setRow b row1).setRow b row2).heap = _; rw [setRow_setRow]⟩)⟩
  clear hr1 hr2 hr1s hr2s hr2t
  go_enter Tryz.func264, Tryz.ntmps264
  go_wp2_with (simp only [hov])
  go_region_law_o (refine step_copy_runI rfl _ _ 29 29 rfl (.slice (some ⟨b, (i + 1) * 3, none⟩) (n + 1 - (i + 1)) (c - (i + 1))) (.slice (some ⟨b, i * 3, none⟩) (n + 1 - i) (c - i)) (by simp [Act.eval, Act.put, hb2, hb4]) (by simp [Act.eval, Act.put, hb2, hb4]) (hcp1 3 (c - (i + 1)) (c - i)) ?_)
  go_wp2_with (at_builtin; refine wpList_copy_runI _ rfl _ _ 29 29 rfl _ _ rfl rfl (hcp2 _ hF1 _ _) ?_)
  go_ret
  exact ⟨rfl, rfl⟩

set_option maxHeartbeats 4000000 in
set_option maxRecDepth 100000 in
theorem ins_end_w85q (w : World) (v : Value) (n gv cv : Nat) (curv : Array Value) (fl vl : List Value) (hn63 : n + 1 ≤ maxLen) (hbig : (n + 1) * 24 ≤ 140737488355328) (how : Go.Rv.Own w 190 3 v n fl)
    (hv : w.heap[gv]? = some (.cells curv 190 (0, 0))) (hvl : curv.toList.take 3 = vl) (hvs : vl.length = 3) (h1v : ∀ v ∈ vl, v.oneCell' = true) :
    ∃ v' w', Go.Rv.Own w' 190 3 v' (n + 1) (fl ++ vl) ∧ w.grownBy w' (ownB v) ∧ (∀ g, ownB v' = some g → w.heap.size ≤ g ∨ ownB v = some g) ∧ 
    Calls Tryz.prog 264 #[v, .int .i64 n, .slice (some ⟨gv, 0, none⟩) 1 cv] w fun e w1 =>  e = .returned v' ∧ w1 = w' := by
  obtain ⟨i0, z, hi0, hz0, hzs, hzb, hzc⟩ := info190_w85q
  have u63 := Tryz.underlying29
  have mixed : Tryz.prog.follows Departure.mixedOrders = true := by kernel_rfl
  obtain ⟨v', w', hrun, ho, hgr, hblk⟩ := run_append_Own (P := Tryz.prog) (w := w) (t := 29) (ty := 29) Tryz.underlying29 hi0 hz0 hzs hzb hzc (by decide) how ⟨gv, 0, none⟩ 1 cv vl (by rw [hvs]) (fun j u hj => by
    rw [Addr.add_lit, Nat.zero_add]
    rw [← hvl, List.getElem?_take] at hj
    split at hj
    · simp only [World.cell?, hv]
      rw [← Array.getElem?_toList]; exact hj
    · cases hj) h1v hn63 hbig
  refine ⟨v', w', ho, hgr, hblk, ?_⟩
  rcases how.2 with ⟨A, rfl, rfl⟩ | ⟨b, cap, cur, rfl, hb, hcb, hnc, hcm, hcs, htk⟩
  · cases A with
    | none =>
      clear ho hgr hblk how
      go_enter Tryz.func264, Tryz.ntmps264
      go_wp2_with (at_builtin; refine Lib.wpList_append_run _ rfl _ _ _ _ rfl _ _ rfl rfl _ _ hrun ?_)
      go_ret
      exact ⟨rfl, rfl⟩
    | some a0 =>
      obtain ⟨a1, a2, a3⟩ := a0
      clear ho hgr hblk how
      go_enter Tryz.func264, Tryz.ntmps264
      go_wp2_with (at_builtin; refine Lib.wpList_append_run _ rfl _ _ _ _ rfl _ _ rfl rfl _ _ hrun ?_)
      go_ret
      exact ⟨rfl, rfl⟩
  · have hc2 : cap ≤ 9223372036854775807 := hcm
    clear ho hgr hblk how
    go_enter Tryz.func264, Tryz.ntmps264
    go_wp2_with (at_builtin; refine Lib.wpList_append_run _ rfl _ _ _ _ rfl _ _ rfl rfl _ _ hrun ?_)
    all_goals (go_ret; exact ⟨rfl, rfl⟩)

theorem ins_walk_w85q : InsWalk Tryz.prog 264 190 3 24 := by
  intro w v0 v1 n i fl vl h0 h1 hi hbig one0 one1 hne
  have hn63 : n + 1 ≤ maxLen := by simp only [maxLen]; omega
  rcases h1.2 with ⟨A, rfl, h⟩ | ⟨gv, cv, curv, rfl, hcv, hv, hv1, hv2, hv3, hvl⟩
  · cases h
  have hvs : vl.length = 3 := by rw [h1.1]
  rw [Nat.one_mul] at hvl
  by_cases hin : i = n
  · subst hin
    obtain ⟨v', w', k1, k2, k3, k4⟩ := ins_end_w85q w v0 i gv cv curv fl vl hn63 hbig h0 hv hvl hvs one1
    refine k4.mono ?_
    rintro en w1 ⟨rfl, rfl⟩
    refine ⟨v', rfl, ?_, k2, k3⟩
    have : insC 3 i fl vl = fl ++ vl := by
      unfold insC
      rw [← h0.1, List.take_length, List.drop_length, List.append_nil]
    rw [this]; exact k1
  · rcases h0.2 with ⟨A, rfl, h⟩ | ⟨b, cap, cur, rfl, hcb, hb, hnc, hcm, hcs, htk⟩
    · omega
    · have hgb : gv ≠ b := fun h => hne b (ownB_of hcb) (by rw [h]; exact ownB_of hcv)
      have hlen : (insC 3 i fl vl).length = (n + 1) * 3 := by
        simp only [insC, List.length_append, List.length_take, List.length_drop, h0.1, hvs]
        omega
      by_cases hroom : n + 1 ≤ cap
      · obtain ⟨row, r1, r2, r3⟩ := ins_room_w85q w b n cap i gv cv cur curv fl vl (by omega) hroom hcm hgb hb hcs htk h0.1 hv hvl hvs one0 one1
        refine r3.mono ?_
        rintro en w1 ⟨rfl, q1, q2, q3, q4⟩
        refine ⟨_, rfl, ⟨hlen, .inr ⟨b, cap, row, rfl, hcb, by rw [q4]; exact set_row_some hb, hroom, hcm, r1, r2⟩⟩, ⟨q1, q2, q3, by rw [q4]; simp, fun k hk hne => by rw [q4]; exact setRow_other w b k row (fun he => hne (by rw [he]; exact (ownB_of hcb).symm))⟩, fun g hg => .inr ?_⟩
        rw [ownB_of hcb] at hg ⊢
        exact hg
      · have hcn : cap = n := by omega
        subst hcn
        refine (ins_grow_w85q w b cap i gv cv cur curv fl vl (by omega) hbig hb htk h0.1 hv hvl hvs one0 one1).mono ?_
        rintro en w1 ⟨G, row, g1, g2, rfl, q1, q2, q3, q4, q5, q6⟩
        refine ⟨_, rfl, ⟨hlen, .inr ⟨w.heap.size, G, row, rfl, by omega, by rw [q4]; simp, g1, g2, q5, q6⟩⟩, ⟨q1, q2, q3, by rw [q4]; simp, fun k hk _ => by rw [q4, Array.getElem?_push_lt hk, ← Array.getElem?_eq_getElem hk]⟩, fun g hg => .inl ?_⟩
        rw [ownB_of (by omega)] at hg
        cases hg; exact Nat.le_refl _
theorem sound_w85q : Sound Tryz.prog 264 S_w85q := sound_ins ins_walk_w85q
theorem ok_w85q : EnvOK Tryz.prog G_w85q := envOK_sound ok_w84q ⟨_, Tryz.func264, by kernel_rfl, by kernel_rfl⟩ sound_w85q
theorem dinfo190_w86q : ∃ i z, Tryz.prog.info? 190 = some i ∧ i.zero = some z ∧ i.size = 3 ∧ z.cells.size = 3 ∧ ∀ v ∈ z.cells.toList, v.oneCell' = true := by
  have h : (Tryz.prog.info? 190).map (fun i => (i.size, i.zero.map fun z => (z.cells.size, z.cells.toList.all fun v => v.oneCell'))) = some (3, some (3, true)) := by kernel_rfl
  cases hi : Tryz.prog.info? 190 with
  | none => rw [hi] at h; cases h
  | some i =>
    rw [hi] at h
    simp only [Option.map_some, Option.some.injEq, Prod.mk.injEq] at h
    obtain ⟨h1, h3⟩ := h
    cases hz : i.zero with
    | none => rw [hz] at h3; cases h3
    | some z =>
      rw [hz] at h3
      simp only [Option.map_some, Option.some.injEq, Prod.mk.injEq] at h3
      exact ⟨i, z, rfl, hz, h1, h3.1, fun v hv => List.all_eq_true.1 h3.2 v hv⟩
set_option maxHeartbeats 4000000 in
set_option maxRecDepth 100000 in
theorem del_room_w86q (w : World) (b n c i j : Nat) (cur : Array Value) (fl : List Value) (hlt : i < j) (hj : j ≤ n) (hnc : n ≤ c) (hc63 : c ≤ 9223372036854775807) (hb : w.heap[b]? = some (.cells cur 190 (0, 0))) (hcs : cur.size = c * 3) (hfl : cur.toList.take (n * 3) = fl) (hfs : fl.length = n * 3) (h1c : ∀ v ∈ fl, v.oneCell' = true) :
    ∃ row, row.size = c * 3 ∧ row.toList.take ((n - (j - i)) * 3) = fl.take (i * 3) ++ fl.drop (j * 3) ∧
    Calls Tryz.prog 265 #[.slice (some ⟨b, 0, none⟩) n c, .int .i64 i, .int .i64 j] w fun e w' => e = .returned (.slice (some ⟨b, 0, none⟩) (n - (j - i)) c) ∧ w'.os = w.os ∧ w'.tape = w.tape ∧ w'.output = w.output ∧ w'.heap = (w.setRow b row).heap := by
  obtain ⟨i0, z, hi0, hz0, hzs, hzc, hz1⟩ := dinfo190_w86q
  have u63 := Tryz.underlying29
  have mixed : Tryz.prog.follows Departure.mixedOrders = true := by kernel_rfl
  have hzv : ∀ w, (zeroValue 190).run Tryz.prog w = .ok z w := fun w => by simp [zeroValue, typeInfo, hi0, hz0]
  obtain ⟨news, hnews⟩ : ∃ news, news = fl.drop (j * 3) := ⟨_, rfl⟩
  have hnl : news.length = (n - j) * 3 := by rw [hnews, List.length_drop, hfs]; omega
  have hcell : ∀ k v, fl[k]? = some v → w.drew.cell? ⟨b, k, none⟩ = some v := fun k v hk => by
    have hd : w.drew.heap[b]? = some (.cells cur 190 (0, 0)) := hb
    rw [← hfl, List.getElem?_take] at hk
    split at hk
    · simp only [World.cell?, hd]
      rw [← Array.getElem?_toList]; exact hk
    · cases hk
  obtain ⟨A, hA, hsrc⟩ : ∃ A : Addr, (if c = j then some (⟨b, 0, none⟩ : Addr) else some ⟨b, j * 3, none⟩) = some A ∧ Hid (∀ t u, news[t]? = some u → w.drew.cell? (A.add t) = some u) := by
    by_cases h : c = j
    · refine ⟨⟨b, 0, none⟩, by simp [h], fun t u hu => ?_⟩
      have h0 : news.length = 0 := by rw [hnl]; omega
      rw [List.length_eq_zero_iff.1 h0] at hu
      simp at hu
    · refine ⟨⟨b, j * 3, none⟩, by simp [h], fun t u hu => ?_⟩
      rw [Addr.add_lit]
      rw [hnews, List.getElem?_drop] at hu
      exact hcell _ u hu
  have s1 : Hid (news.length = (n - j) * 3) := hnl
  have s2 : Hid (∀ u ∈ news, u.oneCell' = true) := fun u hu => h1c u (by rw [hnews] at hu; exact List.mem_of_mem_drop hu)
  have s3 : Hid (∀ t, t < news.length → (w.drew.cell? ⟨b, 0 + i * 3 + t, none⟩).isSome = true ∧ w.drew.frozen? ⟨b, 0 + i * 3 + t, none⟩ = false) := by
    intro t ht
    have hd : w.drew.heap[b]? = some (.cells cur 190 (0, 0)) := hb
    rw [hnl] at ht
    refine ⟨?_, by simp [World.frozen?, hd]⟩
    simp only [World.cell?, hd]
    rw [Array.getElem?_eq_getElem (by rw [hcs]; omega)]; rfl
  obtain ⟨row1, hr1⟩ : ∃ row1 : Array Value, row1 = (cur.toList.take (0 + i * 3) ++ news ++ cur.toList.drop (0 + i * 3 + news.length)).toArray := ⟨_, rfl⟩
  have hr1s : row1.size = c * 3 := by
    rw [hr1]
    simp only [List.size_toArray, List.length_append, List.length_take, List.length_drop, Array.length_toList, hcs, hnl]
    omega
  obtain ⟨W1, hW1⟩ : ∃ W1, W1 = w.drew.setCells b (0 + i * 3) news := ⟨_, rfl⟩
  have hW1r : W1 = w.drew.setRow b row1 := by
    rw [hW1, hr1]
    exact setCells_row Tryz.prog (t := 190) (w := w.drew) hb (by rw [hnl, hcs]; omega) s2
  have hzl : (Builtin.zeroCells z.cells (n - (i + (n - j)))).toList.length = (j - i) * 3 := by
    rw [Array.length_toList, size_zeroCells, hzc]; congr 1; omega
  obtain ⟨row2, hr2⟩ : ∃ row2 : Array Value, row2 = (row1.toList.take ((i + (n - j)) * 3) ++ (Builtin.zeroCells z.cells (n - (i + (n - j)))).toList ++ row1.toList.drop ((i + (n - j)) * 3 + (Builtin.zeroCells z.cells (n - (i + (n - j)))).toList.length)).toArray := ⟨_, rfl⟩
  have hr2s : row2.size = c * 3 := by
    rw [hr2]
    simp only [List.size_toArray, List.length_append, List.length_take, List.length_drop, Array.length_toList, hr1s]
    rw [← Array.length_toList, hzl]
    omega
  have hr2t : row2.toList.take ((n - (j - i)) * 3) = fl.take (i * 3) ++ fl.drop (j * 3) := by
    have e0 : cur.toList.take (0 + i * 3) = fl.take (i * 3) := by
      rw [← hfl, List.take_take]; congr 1; omega
    have e1 : row1.toList.take ((i + (n - j)) * 3) = fl.take (i * 3) ++ news := by
      rw [hr1, List.toList_toArray, e0, List.take_append_of_le_length (by simp only [List.length_append, List.length_take, hfs, hnl]; omega), List.take_of_length_le (by simp only [List.length_append, List.length_take, hfs, hnl]; omega)]
    rw [hr2, List.toList_toArray, e1, show n - (j - i) = i + (n - j) by omega, List.append_assoc, List.take_append_of_le_length (by simp only [List.length_append, List.length_take, hfs, hnl]; omega), List.take_of_length_le (by simp only [List.length_append, List.length_take, hfs, hnl]; omega), hnews]
  have hcl : ∀ ty, (Builtin.clear_ #[29] ty #[.slice (some ⟨b, (i + (n - j)) * 3, none⟩) (n - (i + (n - j))) (c - (i + (n - j)))]).run Tryz.prog W1 = .ok (.tuple #[]) (W1.setRow b row2) := fun ty => by
    have hg1 : W1.heap[b]? = some (.cells row1 190 (0, 0)) := by rw [hW1r]; exact set_row_some (w := w.drew) hb
    have := run_clear_rowK (P := Tryz.prog) W1 29 190 ty z Tryz.underlying29 hzv b ((i + (n - j)) * 3) (n - (i + (n - j))) (c - (i + (n - j))) (by omega) 190 row1 hg1 (by rw [hzl, hr1s]; omega) (fun v hv => by
      rw [zeroCells_flat z.cells _ (by omega)] at hv
      obtain ⟨l, hl, hv⟩ := List.mem_flatten.1 hv
      rw [List.eq_of_mem_replicate hl] at hv
      exact hz1 v hv)
    rw [hr2]; exact this
  have X : Aside (W1 = w.drew.setRow b row1) := hW1r
  have hW : Hid (W1 = w.drew.setCells b (0 + i * 3) news) := hW1
  have hic : i ≤ c := by omega
  have hjc : j ≤ c := by omega
  have hbk : ¬ (c = i + (n - j)) := by omega
  refine ⟨row2, hr2s, hr2t, Calls.mono (R := fun e w' => e = .returned (.slice (some ⟨b, 0, none⟩) (n - (j - i)) c) ∧ w' = W1.setRow b row2) ?_ (fun e w' h => ⟨h.1, by rw [h.2, X.out]; rfl, by rw [h.2, X.out]; rfl, by rw [h.2, X.out]; rfl, by rw [h.2, X.out]; show ((w.setRow b row1).setRow b row2).heap = _; rw [setRow_setRow]⟩)⟩
  clear hr1 hr2 hr1s hr2s hr2t hW1 hW1r hcell hnews hnl hzl
  go_enter Tryz.func265, Tryz.ntmps265
  go_wp2_with fail
  go_region_law_o (refine step_append_room rfl (.tmp 22) (.tmp 25) 29 rfl 190 i0 3 u63 hi0 hzs b 0 i c (by simp [Act.eval, Act.put]) A (n - j) (c - j) news (by simp [Act.eval, Act.put, hA]) s1.out hsrc.out s2.out (by omega) s3.out ?_; rw [← hW.out])
  go_wp2
  go_ret
  exact ⟨by rw [show n - (j - i) = i + (n - j) by omega]; rfl, rfl⟩
theorem del_walk_w86q : DelWalk Tryz.prog 265 190 3 := by
  intro w v0 n i j fl h0 hij hj one0
  by_cases heq : i = j
  · subst heq
    have hc : Calls Tryz.prog 265 #[v0, .int .i64 i, .int .i64 i] w fun e w' => e = .returned v0 ∧ w' = w := by
      rcases h0.2 with ⟨A, rfl, h⟩ | ⟨b, cap, cur, rfl, hcb, hb, hnc, hcm, hcs, htk⟩
      · have hi0 : i = 0 := by omega
        subst hi0
        go_enter Tryz.func265, Tryz.ntmps265
        go_wp2
        all_goals (go_ret; exact ⟨rfl, rfl⟩)
      · have hic : i ≤ cap := by omega
        go_enter Tryz.func265, Tryz.ntmps265
        go_wp2
        all_goals (go_ret; exact ⟨rfl, rfl⟩)
    refine hc.mono ?_
    rintro en w1 ⟨rfl, rfl⟩
    refine ⟨v0, rfl, ?_, World.grownBy.refl _ _, fun g hg => .inr hg⟩
    rw [List.take_append_drop, Nat.sub_self, Nat.sub_zero]
    exact h0
  · rcases h0.2 with ⟨A, rfl, h⟩ | ⟨b, cap, cur, rfl, hcb, hb, hnc, hcm, hcs, htk⟩
    · omega
    · obtain ⟨row, r1, r2, r3⟩ := del_room_w86q w b n cap i j cur fl (by omega) hj hnc hcm hb hcs htk h0.1 one0
      refine r3.mono ?_
      rintro en w1 ⟨rfl, q1, q2, q3, q4⟩
      have hlen : (fl.take (i * 3) ++ fl.drop (j * 3)).length = (n - (j - i)) * 3 := by
        simp only [List.length_append, List.length_take, List.length_drop, h0.1]
        omega
      refine ⟨_, rfl, ⟨hlen, .inr ⟨b, cap, row, rfl, hcb, by rw [q4]; exact set_row_some hb, by omega, hcm, r1, r2⟩⟩, ⟨q1, q2, q3, by rw [q4]; simp, fun k hk hne => by rw [q4]; exact setRow_other w b k row (fun he => hne (by rw [he]; exact (ownB_of hcb).symm))⟩, fun g hg => .inr ?_⟩
      rw [ownB_of hcb] at hg ⊢
      exact hg
theorem sound_w86q : Sound Tryz.prog 265 S_w86q := sound_del del_walk_w86q
theorem ok_w86q : EnvOK Tryz.prog G_w86q := envOK_sound ok_w85q ⟨_, Tryz.func265, by kernel_rfl, by kernel_rfl⟩ sound_w86q
theorem e_w87q (n : Nat) (x) : afun G_w86q T BB 1 n Tryz.f174 a_w87q S_w87q.ps S_w87q.rs x = p_w87q n x := by kernel_rfl
theorem ok_w87q : EnvOK Tryz.prog G_w87q := envOK_cons hm hT ok_w86q Tryz.func174 (by kernel_rfl) hBB fun x r hr => ⟨FU, (e_w87q FU x).trans hr⟩
theorem dinfo185_w88q : ∃ i z, Tryz.prog.info? 185 = some i ∧ i.zero = some z ∧ i.size = 2 ∧ z.cells.size = 2 ∧ ∀ v ∈ z.cells.toList, v.oneCell' = true := by
  have h : (Tryz.prog.info? 185).map (fun i => (i.size, i.zero.map fun z => (z.cells.size, z.cells.toList.all fun v => v.oneCell'))) = some (2, some (2, true)) := by kernel_rfl
  cases hi : Tryz.prog.info? 185 with
  | none => rw [hi] at h; cases h
  | some i =>
    rw [hi] at h
    simp only [Option.map_some, Option.some.injEq, Prod.mk.injEq] at h
    obtain ⟨h1, h3⟩ := h
    cases hz : i.zero with
    | none => rw [hz] at h3; cases h3
    | some z =>
      rw [hz] at h3
      simp only [Option.map_some, Option.some.injEq, Prod.mk.injEq] at h3
      exact ⟨i, z, rfl, hz, h1, h3.1, fun v hv => List.all_eq_true.1 h3.2 v hv⟩
set_option maxHeartbeats 4000000 in
set_option maxRecDepth 100000 in
theorem del_room_w88q (w : World) (b n c i j : Nat) (cur : Array Value) (fl : List Value) (hlt : i < j) (hj : j ≤ n) (hnc : n ≤ c) (hc63 : c ≤ 9223372036854775807) (hb : w.heap[b]? = some (.cells cur 185 (0, 0))) (hcs : cur.size = c * 2) (hfl : cur.toList.take (n * 2) = fl) (hfs : fl.length = n * 2) (h1c : ∀ v ∈ fl, v.oneCell' = true) :
    ∃ row, row.size = c * 2 ∧ row.toList.take ((n - (j - i)) * 2) = fl.take (i * 2) ++ fl.drop (j * 2) ∧
    Calls Tryz.prog 175 #[.slice (some ⟨b, 0, none⟩) n c, .int .i64 i, .int .i64 j] w fun e w' => e = .returned (.slice (some ⟨b, 0, none⟩) (n - (j - i)) c) ∧ w'.os = w.os ∧ w'.tape = w.tape ∧ w'.output = w.output ∧ w'.heap = (w.setRow b row).heap := by
  obtain ⟨i0, z, hi0, hz0, hzs, hzc, hz1⟩ := dinfo185_w88q
  have u63 := Tryz.underlying31
  have mixed : Tryz.prog.follows Departure.mixedOrders = true := by kernel_rfl
  have hzv : ∀ w, (zeroValue 185).run Tryz.prog w = .ok z w := fun w => by simp [zeroValue, typeInfo, hi0, hz0]
  obtain ⟨news, hnews⟩ : ∃ news, news = fl.drop (j * 2) := ⟨_, rfl⟩
  have hnl : news.length = (n - j) * 2 := by rw [hnews, List.length_drop, hfs]; omega
  have hcell : ∀ k v, fl[k]? = some v → w.drew.cell? ⟨b, k, none⟩ = some v := fun k v hk => by
    have hd : w.drew.heap[b]? = some (.cells cur 185 (0, 0)) := hb
    rw [← hfl, List.getElem?_take] at hk
    split at hk
    · simp only [World.cell?, hd]
      rw [← Array.getElem?_toList]; exact hk
    · cases hk
  obtain ⟨A, hA, hsrc⟩ : ∃ A : Addr, (if c = j then some (⟨b, 0, none⟩ : Addr) else some ⟨b, j * 2, none⟩) = some A ∧ Hid (∀ t u, news[t]? = some u → w.drew.cell? (A.add t) = some u) := by
    by_cases h : c = j
    · refine ⟨⟨b, 0, none⟩, by simp [h], fun t u hu => ?_⟩
      have h0 : news.length = 0 := by rw [hnl]; omega
      rw [List.length_eq_zero_iff.1 h0] at hu
      simp at hu
    · refine ⟨⟨b, j * 2, none⟩, by simp [h], fun t u hu => ?_⟩
      rw [Addr.add_lit]
      rw [hnews, List.getElem?_drop] at hu
      exact hcell _ u hu
  have s1 : Hid (news.length = (n - j) * 2) := hnl
  have s2 : Hid (∀ u ∈ news, u.oneCell' = true) := fun u hu => h1c u (by rw [hnews] at hu; exact List.mem_of_mem_drop hu)
  have s3 : Hid (∀ t, t < news.length → (w.drew.cell? ⟨b, 0 + i * 2 + t, none⟩).isSome = true ∧ w.drew.frozen? ⟨b, 0 + i * 2 + t, none⟩ = false) := by
    intro t ht
    have hd : w.drew.heap[b]? = some (.cells cur 185 (0, 0)) := hb
    rw [hnl] at ht
    refine ⟨?_, by simp [World.frozen?, hd]⟩
    simp only [World.cell?, hd]
    rw [Array.getElem?_eq_getElem (by rw [hcs]; omega)]; rfl
  obtain ⟨row1, hr1⟩ : ∃ row1 : Array Value, row1 = (cur.toList.take (0 + i * 2) ++ news ++ cur.toList.drop (0 + i * 2 + news.length)).toArray := ⟨_, rfl⟩
  have hr1s : row1.size = c * 2 := by
    rw [hr1]
    simp only [List.size_toArray, List.length_append, List.length_take, List.length_drop, Array.length_toList, hcs, hnl]
    omega
  obtain ⟨W1, hW1⟩ : ∃ W1, W1 = w.drew.setCells b (0 + i * 2) news := ⟨_, rfl⟩
  have hW1r : W1 = w.drew.setRow b row1 := by
    rw [hW1, hr1]
    exact setCells_row Tryz.prog (t := 185) (w := w.drew) hb (by rw [hnl, hcs]; omega) s2
  have hzl : (Builtin.zeroCells z.cells (n - (i + (n - j)))).toList.length = (j - i) * 2 := by
    rw [Array.length_toList, size_zeroCells, hzc]; congr 1; omega
  obtain ⟨row2, hr2⟩ : ∃ row2 : Array Value, row2 = (row1.toList.take ((i + (n - j)) * 2) ++ (Builtin.zeroCells z.cells (n - (i + (n - j)))).toList ++ row1.toList.drop ((i + (n - j)) * 2 + (Builtin.zeroCells z.cells (n - (i + (n - j)))).toList.length)).toArray := ⟨_, rfl⟩
  have hr2s : row2.size = c * 2 := by
    rw [hr2]
    simp only [List.size_toArray, List.length_append, List.length_take, List.length_drop, Array.length_toList, hr1s]
    rw [← Array.length_toList, hzl]
    omega
  have hr2t : row2.toList.take ((n - (j - i)) * 2) = fl.take (i * 2) ++ fl.drop (j * 2) := by
    have e0 : cur.toList.take (0 + i * 2) = fl.take (i * 2) := by
      rw [← hfl, List.take_take]; congr 1; omega
    have e1 : row1.toList.take ((i + (n - j)) * 2) = fl.take (i * 2) ++ news := by
      rw [hr1, List.toList_toArray, e0, List.take_append_of_le_length (by simp only [List.length_append, List.length_take, hfs, hnl]; omega), List.take_of_length_le (by simp only [List.length_append, List.length_take, hfs, hnl]; omega)]
    rw [hr2, List.toList_toArray, e1, show n - (j - i) = i + (n - j) by omega, List.append_assoc, List.take_append_of_le_length (by simp only [List.length_append, List.length_take, hfs, hnl]; omega), List.take_of_length_le (by simp only [List.length_append, List.length_take, hfs, hnl]; omega), hnews]
  have hcl : ∀ ty, (Builtin.clear_ #[31] ty #[.slice (some ⟨b, (i + (n - j)) * 2, none⟩) (n - (i + (n - j))) (c - (i + (n - j)))]).run Tryz.prog W1 = .ok (.tuple #[]) (W1.setRow b row2) := fun ty => by
    have hg1 : W1.heap[b]? = some (.cells row1 185 (0, 0)) := by rw [hW1r]; exact set_row_some (w := w.drew) hb
    have := run_clear_rowK (P := Tryz.prog) W1 31 185 ty z Tryz.underlying31 hzv b ((i + (n - j)) * 2) (n - (i + (n - j))) (c - (i + (n - j))) (by omega) 185 row1 hg1 (by rw [hzl, hr1s]; omega) (fun v hv => by
      rw [zeroCells_flat z.cells _ (by omega)] at hv
      obtain ⟨l, hl, hv⟩ := List.mem_flatten.1 hv
      rw [List.eq_of_mem_replicate hl] at hv
      exact hz1 v hv)
    rw [hr2]; exact this
  have X : Aside (W1 = w.drew.setRow b row1) := hW1r
  have hW : Hid (W1 = w.drew.setCells b (0 + i * 2) news) := hW1
  have hic : i ≤ c := by omega
  have hjc : j ≤ c := by omega
  have hbk : ¬ (c = i + (n - j)) := by omega
  refine ⟨row2, hr2s, hr2t, Calls.mono (R := fun e w' => e = .returned (.slice (some ⟨b, 0, none⟩) (n - (j - i)) c) ∧ w' = W1.setRow b row2) ?_ (fun e w' h => ⟨h.1, by rw [h.2, X.out]; rfl, by rw [h.2, X.out]; rfl, by rw [h.2, X.out]; rfl, by rw [h.2, X.out]; show ((w.setRow b row1).setRow b row2).heap = _; rw [setRow_setRow]⟩)⟩
  clear hr1 hr2 hr1s hr2s hr2t hW1 hW1r hcell hnews hnl hzl
  go_enter Tryz.func175, Tryz.ntmps175
  go_wp2_with fail
  go_region_law_o (refine step_append_room rfl (.tmp 22) (.tmp 25) 31 rfl 185 i0 2 u63 hi0 hzs b 0 i c (by simp [Act.eval, Act.put]) A (n - j) (c - j) news (by simp [Act.eval, Act.put, hA]) s1.out hsrc.out s2.out (by omega) s3.out ?_; rw [← hW.out])
  go_wp2
  go_ret
  exact ⟨by rw [show n - (j - i) = i + (n - j) by omega]; rfl, rfl⟩
theorem del_walk_w88q : DelWalk Tryz.prog 175 185 2 := by
  intro w v0 n i j fl h0 hij hj one0
  by_cases heq : i = j
  · subst heq
    have hc : Calls Tryz.prog 175 #[v0, .int .i64 i, .int .i64 i] w fun e w' => e = .returned v0 ∧ w' = w := by
      rcases h0.2 with ⟨A, rfl, h⟩ | ⟨b, cap, cur, rfl, hcb, hb, hnc, hcm, hcs, htk⟩
      · have hi0 : i = 0 := by omega
        subst hi0
        go_enter Tryz.func175, Tryz.ntmps175
        go_wp2
        all_goals (go_ret; exact ⟨rfl, rfl⟩)
      · have hic : i ≤ cap := by omega
        go_enter Tryz.func175, Tryz.ntmps175
        go_wp2
        all_goals (go_ret; exact ⟨rfl, rfl⟩)
    refine hc.mono ?_
    rintro en w1 ⟨rfl, rfl⟩
    refine ⟨v0, rfl, ?_, World.grownBy.refl _ _, fun g hg => .inr hg⟩
    rw [List.take_append_drop, Nat.sub_self, Nat.sub_zero]
    exact h0
  · rcases h0.2 with ⟨A, rfl, h⟩ | ⟨b, cap, cur, rfl, hcb, hb, hnc, hcm, hcs, htk⟩
    · omega
    · obtain ⟨row, r1, r2, r3⟩ := del_room_w88q w b n cap i j cur fl (by omega) hj hnc hcm hb hcs htk h0.1 one0
      refine r3.mono ?_
      rintro en w1 ⟨rfl, q1, q2, q3, q4⟩
      have hlen : (fl.take (i * 2) ++ fl.drop (j * 2)).length = (n - (j - i)) * 2 := by
        simp only [List.length_append, List.length_take, List.length_drop, h0.1]
        omega
      refine ⟨_, rfl, ⟨hlen, .inr ⟨b, cap, row, rfl, hcb, by rw [q4]; exact set_row_some hb, by omega, hcm, r1, r2⟩⟩, ⟨q1, q2, q3, by rw [q4]; simp, fun k hk hne => by rw [q4]; exact setRow_other w b k row (fun he => hne (by rw [he]; exact (ownB_of hcb).symm))⟩, fun g hg => .inr ?_⟩
      rw [ownB_of hcb] at hg ⊢
      exact hg
theorem sound_w88q : Sound Tryz.prog 175 S_w88q := sound_del del_walk_w88q
theorem ok_w88q : EnvOK Tryz.prog G_w88q := envOK_sound ok_w87q ⟨_, Tryz.func175, by kernel_rfl, by kernel_rfl⟩ sound_w88q
theorem e_w89q (n : Nat) (x) : afun G_w88q T BB 0 n Tryz.f70 a_w89q S_w89q.ps S_w89q.rs x = p_w89q n x := by kernel_rfl
theorem ok_w89q : EnvOK Tryz.prog G_w89q := envOK_cons hm hT ok_w88q Tryz.func70 (by kernel_rfl) hBB fun x r hr => ⟨FU, (e_w89q FU x).trans hr⟩
theorem e_w90q (n : Nat) (x) : afun G_w89q T BB 0 n Tryz.f16 a_w90q S_w90q.ps S_w90q.rs x = p_w90q n x := by kernel_rfl
theorem ok_w90q : EnvOK Tryz.prog G_w90q := envOK_cons hm hT ok_w89q Tryz.func16 (by kernel_rfl) hBB fun x r hr => ⟨FU, (e_w90q FU x).trans hr⟩
theorem e_w91q (n : Nat) (x) : afun G_w90q T BB 0 n Tryz.f176 a_w91q S_w91q.ps S_w91q.rs x = p_w91q n x := by kernel_rfl
theorem ok_w91q : EnvOK Tryz.prog G_w91q := envOK_cons hm hT ok_w90q Tryz.func176 (by kernel_rfl) hBB fun x r hr => ⟨FU, (e_w91q FU x).trans hr⟩
theorem e_w92q (n : Nat) (x) : afun G_w91q T BB 0 n Tryz.f71 a_w92q S_w92q.ps S_w92q.rs x = p_w92q n x := by kernel_rfl
theorem ok_w92q : EnvOK Tryz.prog G_w92q := envOK_cons hm hT ok_w91q Tryz.func71 (by kernel_rfl) hBB fun x r hr => ⟨FU, (e_w92q FU x).trans hr⟩
theorem e_w93q (n : Nat) (x) : afun G_w92q T BB 0 n Tryz.f177 a_w93q S_w93q.ps S_w93q.rs x = p_w93q n x := by kernel_rfl
theorem ok_w93q : EnvOK Tryz.prog G_w93q := envOK_cons hm hT ok_w92q Tryz.func177 (by kernel_rfl) hBB fun x r hr => ⟨FU, (e_w93q FU x).trans hr⟩
theorem e_w94q (n : Nat) (x) : afun G_w93q T BB 0 n Tryz.f72 a_w94q S_w94q.ps S_w94q.rs x = p_w94q n x := by kernel_rfl
theorem ok_w94q : EnvOK Tryz.prog G_w94q := envOK_cons hm hT ok_w93q Tryz.func72 (by kernel_rfl) hBB fun x r hr => ⟨FU, (e_w94q FU x).trans hr⟩
theorem e_w95q (n : Nat) (x) : afun G_w94q T BB 0 n Tryz.f321 a_w95q S_w95q.ps S_w95q.rs x = p_w95q n x := by kernel_rfl
theorem ok_w95q : EnvOK Tryz.prog G_w95q := envOK_cons hm hT ok_w94q Tryz.func321 (by kernel_rfl) hBB fun x r hr => ⟨FU, (e_w95q FU x).trans hr⟩
theorem e_w96q (n : Nat) (x) : afun G_w95q T BB 0 n Tryz.f266 a_w96q S_w96q.ps S_w96q.rs x = p_w96q n x := by kernel_rfl
theorem ok_w96q : EnvOK Tryz.prog G_w96q := envOK_cons hm hT ok_w95q Tryz.func266 (by kernel_rfl) hBB fun x r hr => ⟨FU, (e_w96q FU x).trans hr⟩
theorem e_w97q (n : Nat) (x) : afun G_w96q T BB 0 n Tryz.f178 a_w97q S_w97q.ps S_w97q.rs x = p_w97q n x := by kernel_rfl
theorem ok_w97q : EnvOK Tryz.prog G_w97q := envOK_cons hm hT ok_w96q Tryz.func178 (by kernel_rfl) hBB fun x r hr => ⟨FU, (e_w97q FU x).trans hr⟩
theorem e_w98q (n : Nat) (x) : afun G_w97q T BB 0 n Tryz.f73 a_w98q S_w98q.ps S_w98q.rs x = p_w98q n x := by kernel_rfl
theorem ok_w98q : EnvOK Tryz.prog G_w98q := envOK_cons hm hT ok_w97q Tryz.func73 (by kernel_rfl) hBB fun x r hr => ⟨FU, (e_w98q FU x).trans hr⟩
theorem e_w99q (n : Nat) (x) : afun G_w98q T BB 0 n Tryz.f74 a_w99q S_w99q.ps S_w99q.rs x = p_w99q n x := by kernel_rfl
theorem ok_w99q : EnvOK Tryz.prog G_w99q := envOK_cons hm hT ok_w98q Tryz.func74 (by kernel_rfl) hBB fun x r hr => ⟨FU, (e_w99q FU x).trans hr⟩
theorem e_w100q (n : Nat) (x) : afun G_w99q T BB 0 n Tryz.f18 a_w100q S_w100q.ps S_w100q.rs x = p_w100q n x := by kernel_rfl
theorem ok_w100q : EnvOK Tryz.prog G_w100q := envOK_cons hm hT ok_w99q Tryz.func18 (by kernel_rfl) hBB fun x r hr => ⟨FU, (e_w100q FU x).trans hr⟩
theorem e_w101q (n : Nat) (x) : afun G_w100q T BB 0 n Tryz.f17 a_w101q S_w101q.ps S_w101q.rs x = p_w101q n x := by kernel_rfl
theorem ok_w101q : EnvOK Tryz.prog G_w101q := envOK_cons hm hT ok_w100q Tryz.func17 (by kernel_rfl) hBB fun x r hr => ⟨FU, (e_w101q FU x).trans hr⟩
theorem e_w102q (n : Nat) (x) : afun G_w101q T BB 0 n Tryz.f75 a_w102q S_w102q.ps S_w102q.rs x = p_w102q n x := by kernel_rfl
theorem ok_w102q : EnvOK Tryz.prog G_w102q := envOK_cons hm hT ok_w101q Tryz.func75 (by kernel_rfl) hBB fun x r hr => ⟨FU, (e_w102q FU x).trans hr⟩
theorem e_w103q (n : Nat) (x) : afun G_w102q T BB 0 n Tryz.f76 a_w103q S_w103q.ps S_w103q.rs x = p_w103q n x := by kernel_rfl
theorem ok_w103q : EnvOK Tryz.prog G_w103q := envOK_cons hm hT ok_w102q Tryz.func76 (by kernel_rfl) hBB fun x r hr => ⟨FU, (e_w103q FU x).trans hr⟩
theorem e_w104q (n : Nat) (x) : afun G_w103q T BB 0 n Tryz.f179 a_w104q S_w104q.ps S_w104q.rs x = p_w104q n x := by kernel_rfl
theorem ok_w104q : EnvOK Tryz.prog G_w104q := envOK_cons hm hT ok_w103q Tryz.func179 (by kernel_rfl) hBB fun x r hr => ⟨FU, (e_w104q FU x).trans hr⟩
theorem e_w105q (n : Nat) (x) : afun G_w104q T BB 0 n Tryz.f77 a_w105q S_w105q.ps S_w105q.rs x = p_w105q n x := by kernel_rfl
theorem ok_w105q : EnvOK Tryz.prog G_w105q := envOK_cons hm hT ok_w104q Tryz.func77 (by kernel_rfl) hBB fun x r hr => ⟨FU, (e_w105q FU x).trans hr⟩
theorem e_w106q (n : Nat) (x) : afun G_w105q T BB 0 n Tryz.f78 a_w106q S_w106q.ps S_w106q.rs x = p_w106q n x := by kernel_rfl
theorem ok_w106q : EnvOK Tryz.prog G_w106q := envOK_cons hm hT ok_w105q Tryz.func78 (by kernel_rfl) hBB fun x r hr => ⟨FU, (e_w106q FU x).trans hr⟩
theorem e_w107q (n : Nat) (x) : afun G_w106q T BB 0 n Tryz.f180 a_w107q S_w107q.ps S_w107q.rs x = p_w107q n x := by kernel_rfl
theorem ok_w107q : EnvOK Tryz.prog G_w107q := envOK_cons hm hT ok_w106q Tryz.func180 (by kernel_rfl) hBB fun x r hr => ⟨FU, (e_w107q FU x).trans hr⟩
theorem e_w108q (n : Nat) (x) : afun G_w107q T BB 0 n Tryz.f181 a_w108q S_w108q.ps S_w108q.rs x = p_w108q n x := by kernel_rfl
theorem ok_w108q : EnvOK Tryz.prog G_w108q := envOK_cons hm hT ok_w107q Tryz.func181 (by kernel_rfl) hBB fun x r hr => ⟨FU, (e_w108q FU x).trans hr⟩
theorem e_w109q (n : Nat) (x) : afun G_w108q T BB 0 n Tryz.f267 a_w109q S_w109q.ps S_w109q.rs x = p_w109q n x := by kernel_rfl
theorem ok_w109q : EnvOK Tryz.prog G_w109q := envOK_cons hm hT ok_w108q Tryz.func267 (by kernel_rfl) hBB fun x r hr => ⟨FU, (e_w109q FU x).trans hr⟩
theorem e_w110q (n : Nat) (x) : afun G_w109q T BB 0 n Tryz.f182 a_w110q S_w110q.ps S_w110q.rs x = p_w110q n x := by kernel_rfl
theorem ok_w110q : EnvOK Tryz.prog G_w110q := envOK_cons hm hT ok_w109q Tryz.func182 (by kernel_rfl) hBB fun x r hr => ⟨FU, (e_w110q FU x).trans hr⟩
theorem e_w111q (n : Nat) (x) : afun G_w110q T BB 0 n Tryz.f183 a_w111q S_w111q.ps S_w111q.rs x = p_w111q n x := by kernel_rfl
theorem ok_w111q : EnvOK Tryz.prog G_w111q := envOK_cons hm hT ok_w110q Tryz.func183 (by kernel_rfl) hBB fun x r hr => ⟨FU, (e_w111q FU x).trans hr⟩
theorem e_w112q (n : Nat) (x) : afun G_w111q T BB 0 n Tryz.f79 a_w112q S_w112q.ps S_w112q.rs x = p_w112q n x := by kernel_rfl
theorem ok_w112q : EnvOK Tryz.prog G_w112q := envOK_cons hm hT ok_w111q Tryz.func79 (by kernel_rfl) hBB fun x r hr => ⟨FU, (e_w112q FU x).trans hr⟩
theorem e_w113q (n : Nat) (x) : afun G_w112q T BB 0 n Tryz.f21 a_w113q S_w113q.ps S_w113q.rs x = p_w113q n x := by kernel_rfl
theorem ok_w113q : EnvOK Tryz.prog G_w113q := envOK_cons hm hT ok_w112q Tryz.func21 (by kernel_rfl) hBB fun x r hr => ⟨FU, (e_w113q FU x).trans hr⟩
theorem e_w114q (n : Nat) (x) : afun G_w113q T BB 2 n Tryz.f3 a_w114q S_w114q.ps S_w114q.rs x = p_w114q n x := by kernel_rfl
theorem ok_w114q : EnvOK Tryz.prog G_w114q := envOK_cons hm hT ok_w113q Tryz.func3 (by kernel_rfl) hBB fun x r hr => ⟨FU, (e_w114q FU x).trans hr⟩
end Go.RvP
