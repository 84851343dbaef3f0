/- Each function of the program is as its plain function says, for FnExactShardTextCard. No condition. -/
import Derived.Test.YtjamkpjjlpmofaaGreatDoorRvP3
import Derived.Test.YtjamkpjjlpmofaaGreatDoorProg
import Derived.KernelRfl
import Derived.RangeFuncBox
import Derived.RangeFuncLeaves
import Derived.Shelf.Abstract
import Derived.WalkKit
import Derived.OwnWalkIn
import Derived.TacticsInMore
import Derived.LoopNIn
import Derived.LoopIn
namespace Go.RvP
open Go Go.Rv Go.Proofs Go.Shelf Go.RowKit Go.Lib Go.Sort
set_option maxRecDepth 100000
theorem hm : Tryz.prog.follows .mixedOrders = true := by kernel_rfl
theorem hT : TabOK Tryz.prog T := tabOK_of (by kernel_rfl)
noncomputable def BB : Bodies := [(57,Tryz.f57),(61,Tryz.f61),(95,Tryz.f95),(96,Tryz.f96),(112,Tryz.f112),(115,Tryz.f115),(116,Tryz.f116),(117,Tryz.f117),(123,Tryz.f123),(137,Tryz.f137),(144,Tryz.f144),(155,Tryz.f155),(156,Tryz.f156),(157,Tryz.f157),(168,Tryz.f168)]
theorem hBB : BodyOK Tryz.prog BB := (bodyOK_cons Tryz.func57 (by kernel_rfl) (bodyOK_cons Tryz.func61 (by kernel_rfl) (bodyOK_cons Tryz.func95 (by kernel_rfl) (bodyOK_cons Tryz.func96 (by kernel_rfl) (bodyOK_cons Tryz.func112 (by kernel_rfl) (bodyOK_cons Tryz.func115 (by kernel_rfl) (bodyOK_cons Tryz.func116 (by kernel_rfl) (bodyOK_cons Tryz.func117 (by kernel_rfl) (bodyOK_cons Tryz.func123 (by kernel_rfl) (bodyOK_cons Tryz.func137 (by kernel_rfl) (bodyOK_cons Tryz.func144 (by kernel_rfl) (bodyOK_cons Tryz.func155 (by kernel_rfl) (bodyOK_cons Tryz.func156 (by kernel_rfl) (bodyOK_cons Tryz.func157 (by kernel_rfl) (bodyOK_cons Tryz.func168 (by kernel_rfl) bodyOK_nil)))))))))))))))
theorem okc {G : Env} (h : EnvOK Tryz.prog G) {f : Nat} {fn : Func} {F : FSpec} (hf : Tryz.prog.funcs[f]? = some fn) (hB : funB fn F = true) (an : Ann) (d : Nat) (p : Nat → Tup (F.ps.map PK.kd) → Option (Tup (F.rs ++ boxes F.ps))) (e : ∀ n x,afun G T BB d n fn an F.ps F.rs x = p n x) (r : ∀ x,F.run x = p FU x) : EnvOK Tryz.prog ((f,F) :: G) := envOK_cons hm hT h hf hB hBB fun x q hr => ⟨FU,(e FU x).trans ((r x).symm.trans hr)⟩
theorem ok_w0q : EnvOK Tryz.prog G_w0q := okc envOK_nil Tryz.func25 (by kernel_rfl) a_w0q 0 p_w0q (fun _ _ => by kernel_rfl) fun _ => rfl
theorem ok_w1q : EnvOK Tryz.prog G_w1q := okc ok_w0q Tryz.func26 (by kernel_rfl) a_w1q 0 p_w1q (fun _ _ => by kernel_rfl) fun _ => rfl
theorem ok_w2q : EnvOK Tryz.prog G_w2q := okc ok_w1q Tryz.func126 (by kernel_rfl) a_w2q 0 p_w2q (fun _ _ => by kernel_rfl) fun _ => rfl
theorem ok_w3q : EnvOK Tryz.prog G_w3q := okc ok_w2q Tryz.func74 (by kernel_rfl) a_w3q 0 p_w3q (fun _ _ => by kernel_rfl) fun _ => rfl
theorem ok_w4q : EnvOK Tryz.prog G_w4q := okc ok_w3q Tryz.func27 (by kernel_rfl) a_w4q 0 p_w4q (fun _ _ => by kernel_rfl) fun _ => rfl
theorem ok_w5q : EnvOK Tryz.prog G_w5q := okc ok_w4q Tryz.func28 (by kernel_rfl) a_w5q 0 p_w5q (fun _ _ => by kernel_rfl) fun _ => rfl
theorem ok_w6q : EnvOK Tryz.prog G_w6q := okc ok_w5q Tryz.func6 (by kernel_rfl) a_w6q 0 p_w6q (fun _ _ => by kernel_rfl) fun _ => rfl
theorem ok_w7q : EnvOK Tryz.prog G_w7q := okc ok_w6q Tryz.func79 (by kernel_rfl) a_w7q 0 p_w7q (fun _ _ => by kernel_rfl) fun _ => rfl
theorem ok_w8q : EnvOK Tryz.prog G_w8q := okc ok_w7q Tryz.func31 (by kernel_rfl) a_w8q 0 p_w8q (fun _ _ => by kernel_rfl) fun _ => rfl
theorem ok_w9q : EnvOK Tryz.prog G_w9q := okc ok_w8q Tryz.func80 (by kernel_rfl) a_w9q 0 p_w9q (fun _ _ => by kernel_rfl) fun _ => rfl
theorem ok_w10q : EnvOK Tryz.prog G_w10q := okc ok_w9q Tryz.func32 (by kernel_rfl) a_w10q 0 p_w10q (fun _ _ => by kernel_rfl) fun _ => rfl
theorem ok_w11q : EnvOK Tryz.prog G_w11q := okc ok_w10q Tryz.func164 (by kernel_rfl) a_w11q 0 p_w11q (fun _ _ => by kernel_rfl) fun _ => rfl
theorem ok_w12q : EnvOK Tryz.prog G_w12q := okc ok_w11q Tryz.func132 (by kernel_rfl) a_w12q 0 p_w12q (fun _ _ => by kernel_rfl) fun _ => rfl
theorem ok_w13q : EnvOK Tryz.prog G_w13q := okc ok_w12q Tryz.func81 (by kernel_rfl) a_w13q 0 p_w13q (fun _ _ => by kernel_rfl) fun _ => rfl
theorem ok_w14q : EnvOK Tryz.prog G_w14q := okc ok_w13q Tryz.func33 (by kernel_rfl) a_w14q 0 p_w14q (fun _ _ => by kernel_rfl) fun _ => rfl
theorem ok_w15q : EnvOK Tryz.prog G_w15q := okc ok_w14q Tryz.func34 (by kernel_rfl) a_w15q 0 p_w15q (fun _ _ => by kernel_rfl) fun _ => rfl
theorem ok_w16q : EnvOK Tryz.prog G_w16q := okc ok_w15q Tryz.func8 (by kernel_rfl) a_w16q 0 p_w16q (fun _ _ => by kernel_rfl) fun _ => rfl
theorem ok_w17q : EnvOK Tryz.prog G_w17q := okc ok_w16q Tryz.func70 (by kernel_rfl) a_w17q 0 p_w17q (fun _ _ => by kernel_rfl) fun _ => rfl
theorem ok_w18q : EnvOK Tryz.prog G_w18q := okc ok_w17q Tryz.func162 (by kernel_rfl) a_w18q 0 p_w18q (fun _ _ => by kernel_rfl) fun _ => rfl
theorem ok_w19q : EnvOK Tryz.prog G_w19q := okc ok_w18q Tryz.func127 (by kernel_rfl) a_w19q 0 p_w19q (fun _ _ => by kernel_rfl) fun _ => rfl
theorem ok_w20q : EnvOK Tryz.prog G_w20q := okc ok_w19q Tryz.func75 (by kernel_rfl) a_w20q 0 p_w20q (fun _ _ => by kernel_rfl) fun _ => rfl
theorem ok_w21q : EnvOK Tryz.prog G_w21q := okc ok_w20q Tryz.func69 (by kernel_rfl) a_w21q 0 p_w21q (fun _ _ => by kernel_rfl) fun _ => rfl
theorem ok_w22q : EnvOK Tryz.prog G_w22q := okc ok_w21q Tryz.func76 (by kernel_rfl) a_w22q 0 p_w22q (fun _ _ => by kernel_rfl) fun _ => rfl
theorem ok_w23q : EnvOK Tryz.prog G_w23q := okc ok_w22q Tryz.func105 (by kernel_rfl) a_w23q 0 p_w23q (fun _ _ => by kernel_rfl) fun _ => rfl
theorem ok_w24q : EnvOK Tryz.prog G_w24q := okc ok_w23q Tryz.func52 (by kernel_rfl) a_w24q 0 p_w24q (fun _ _ => by kernel_rfl) fun _ => rfl
theorem ok_w25q : EnvOK Tryz.prog G_w25q := okc ok_w24q Tryz.func53 (by kernel_rfl) a_w25q 0 p_w25q (fun _ _ => by kernel_rfl) fun _ => rfl
theorem ok_w26q : EnvOK Tryz.prog G_w26q := okc ok_w25q Tryz.func107 (by kernel_rfl) a_w26q 0 p_w26q (fun _ _ => by kernel_rfl) fun _ => rfl
theorem ok_w27q : EnvOK Tryz.prog G_w27q := okc ok_w26q Tryz.func124 (by kernel_rfl) a_w27q 0 p_w27q (fun _ _ => by kernel_rfl) fun _ => rfl
theorem ok_w28q : EnvOK Tryz.prog G_w28q := okc ok_w27q Tryz.func163 (by kernel_rfl) a_w28q 0 p_w28q (fun _ _ => by kernel_rfl) fun _ => rfl
theorem ok_w29q : EnvOK Tryz.prog G_w29q := okc ok_w28q Tryz.func128 (by kernel_rfl) a_w29q 0 p_w29q (fun _ _ => by kernel_rfl) fun _ => rfl
theorem ok_w30q : EnvOK Tryz.prog G_w30q := okc ok_w29q Tryz.func129 (by kernel_rfl) a_w30q 0 p_w30q (fun _ _ => by kernel_rfl) fun _ => rfl
theorem ok_w31q : EnvOK Tryz.prog G_w31q := okc ok_w30q Tryz.func161 (by kernel_rfl) a_w31q 0 p_w31q (fun _ _ => by kernel_rfl) fun _ => rfl
theorem ok_w32q : EnvOK Tryz.prog G_w32q := okc ok_w31q Tryz.func130 (by kernel_rfl) a_w32q 0 p_w32q (fun _ _ => by kernel_rfl) fun _ => rfl
theorem ok_w33q : EnvOK Tryz.prog G_w33q := okc ok_w32q Tryz.func77 (by kernel_rfl) a_w33q 0 p_w33q (fun _ _ => by kernel_rfl) fun _ => rfl
theorem ok_w34q : EnvOK Tryz.prog G_w34q := okc ok_w33q Tryz.func29 (by kernel_rfl) a_w34q 0 p_w34q (fun _ _ => by kernel_rfl) fun _ => rfl
theorem sound_none {P : Program} {f : Nat} {F : FSpec} (h : ∀ x,F.run x = none) : Sound P f F := fun w R vs x D hs _ _ _ _ r hr => by rw [h x] at hr; cases hr
theorem e_w35q (q) (n : Nat) (x) : afun ((131,Q_w35q q) :: G_w34q) T BB 0 n Tryz.f131 a_w35q S_w35q.ps S_w35q.rs x = p_w35q q n x := by kernel_rfl
theorem okR_w35q : ∀ d,EnvOK Tryz.prog ((131,Q_w35q (R_w35q FU d)) :: G_w34q)
 | 0 => envOK_sound ok_w34q ⟨_,Tryz.func131,by kernel_rfl,by kernel_rfl⟩ (sound_none fun _ => rfl)
 | d + 1 => envOK_sound ok_w34q ⟨_,Tryz.func131,by kernel_rfl,by kernel_rfl⟩ (sound_of_afun hm (okR_w35q d) hT Tryz.func131 hBB (by kernel_rfl) fun x r hr => ⟨FU,(e_w35q (R_w35q FU d) FU x).trans hr⟩)
theorem ok_w35q : EnvOK Tryz.prog G_w35q := okR_w35q 64
theorem ok_w36q : EnvOK Tryz.prog G_w36q := okc ok_w35q Tryz.func78 (by kernel_rfl) a_w36q 0 p_w36q (fun _ _ => by kernel_rfl) fun _ => rfl
theorem ok_w37q : EnvOK Tryz.prog G_w37q := okc ok_w36q Tryz.func30 (by kernel_rfl) a_w37q 0 p_w37q (fun _ _ => by kernel_rfl) fun _ => rfl
theorem ok_w38q : EnvOK Tryz.prog G_w38q := okc ok_w37q Tryz.func7 (by kernel_rfl) a_w38q 0 p_w38q (fun _ _ => by kernel_rfl) fun _ => rfl
theorem ok_w39q : EnvOK Tryz.prog G_w39q := okc ok_w38q Tryz.func92 (by kernel_rfl) a_w39q 0 p_w39q (fun _ _ => by kernel_rfl) fun _ => rfl
theorem ok_w40q : EnvOK Tryz.prog G_w40q := okc ok_w39q Tryz.func55 (by kernel_rfl) a_w40q 0 p_w40q (fun _ _ => by kernel_rfl) fun _ => rfl
theorem ok_w41q : EnvOK Tryz.prog G_w41q := okc ok_w40q Tryz.func122 (by kernel_rfl) a_w41q 0 p_w41q (fun _ _ => by kernel_rfl) fun _ => rfl
theorem ok_w42q : EnvOK Tryz.prog G_w42q := okc ok_w41q Tryz.func66 (by kernel_rfl) a_w42q 0 p_w42q (fun _ _ => by kernel_rfl) fun _ => rfl
theorem ok_w43q : EnvOK Tryz.prog G_w43q := okc ok_w42q Tryz.func170 (by kernel_rfl) a_w43q 0 p_w43q (fun _ _ => by kernel_rfl) fun _ => rfl
theorem ok_w44q : EnvOK Tryz.prog G_w44q := okc ok_w43q Tryz.func146 (by kernel_rfl) a_w44q 0 p_w44q (fun _ _ => by kernel_rfl) fun _ => rfl
theorem ok_w45q : EnvOK Tryz.prog G_w45q := okc ok_w44q Tryz.func151 (by kernel_rfl) a_w45q 0 p_w45q (fun _ _ => by kernel_rfl) fun _ => rfl
theorem ok_w46q : EnvOK Tryz.prog G_w46q := okc ok_w45q Tryz.func111 (by kernel_rfl) a_w46q 0 p_w46q (fun _ _ => by kernel_rfl) fun _ => rfl
theorem ok_w47q : EnvOK Tryz.prog G_w47q := okc ok_w46q Tryz.func56 (by kernel_rfl) a_w47q 0 p_w47q (fun _ _ => by kernel_rfl) fun _ => rfl
theorem ok_w48q : EnvOK Tryz.prog G_w48q := okc ok_w47q Tryz.func91 (by kernel_rfl) a_w48q 0 p_w48q (fun _ _ => by kernel_rfl) fun _ => rfl
theorem ok_w49q : EnvOK Tryz.prog G_w49q := okc ok_w48q Tryz.func58 (by kernel_rfl) a_w49q 0 p_w49q (fun _ _ => by kernel_rfl) fun _ => rfl
theorem ok_w50q : EnvOK Tryz.prog G_w50q := okc ok_w49q Tryz.func59 (by kernel_rfl) a_w50q 0 p_w50q (fun _ _ => by kernel_rfl) fun _ => rfl
theorem ok_w51q : EnvOK Tryz.prog G_w51q := okc ok_w50q Tryz.func93 (by kernel_rfl) a_w51q 0 p_w51q (fun _ _ => by kernel_rfl) fun _ => rfl
theorem ok_w52q : EnvOK Tryz.prog G_w52q := okc ok_w51q Tryz.func94 (by kernel_rfl) a_w52q 0 p_w52q (fun _ _ => by kernel_rfl) fun _ => rfl
theorem ok_w53q : EnvOK Tryz.prog G_w53q := okc ok_w52q Tryz.func97 (by kernel_rfl) a_w53q 0 p_w53q (fun _ _ => by kernel_rfl) fun _ => rfl
theorem ok_w54q : EnvOK Tryz.prog G_w54q := okc ok_w53q Tryz.func49 (by kernel_rfl) a_w54q 3 p_w54q (fun _ _ => by kernel_rfl) fun _ => rfl
theorem ok_w55q : EnvOK Tryz.prog G_w55q := okc ok_w54q Tryz.func50 (by kernel_rfl) a_w55q 0 p_w55q (fun _ _ => by kernel_rfl) fun _ => rfl
theorem ok_w56q : EnvOK Tryz.prog G_w56q := okc ok_w55q Tryz.func169 (by kernel_rfl) a_w56q 0 p_w56q (fun _ _ => by kernel_rfl) fun _ => rfl
theorem ok_w57q : EnvOK Tryz.prog G_w57q := okc ok_w56q Tryz.func142 (by kernel_rfl) a_w57q 1 p_w57q (fun _ _ => by kernel_rfl) fun _ => rfl
theorem ok_w58q : EnvOK Tryz.prog G_w58q := okc ok_w57q Tryz.func99 (by kernel_rfl) a_w58q 0 p_w58q (fun _ _ => by kernel_rfl) fun _ => rfl
theorem ok_w59q : EnvOK Tryz.prog G_w59q := okc ok_w58q Tryz.func60 (by kernel_rfl) a_w59q 0 p_w59q (fun _ _ => by kernel_rfl) fun _ => rfl
theorem ok_w60q : EnvOK Tryz.prog G_w60q := okc ok_w59q Tryz.func48 (by kernel_rfl) a_w60q 0 p_w60q (fun _ _ => by kernel_rfl) fun _ => rfl
theorem ok_w61q : EnvOK Tryz.prog G_w61q := okc ok_w60q Tryz.func145 (by kernel_rfl) a_w61q 0 p_w61q (fun _ _ => by kernel_rfl) fun _ => rfl
theorem ok_w62q : EnvOK Tryz.prog G_w62q := okc ok_w61q Tryz.func101 (by kernel_rfl) a_w62q 1 p_w62q (fun _ _ => by kernel_rfl) fun _ => rfl
theorem ok_w63q : EnvOK Tryz.prog G_w63q := okc ok_w62q Tryz.func62 (by kernel_rfl) a_w63q 0 p_w63q (fun _ _ => by kernel_rfl) fun _ => rfl
def ren_w64q : Go.Shelf.Ren := ⟨fun n => if n = 6 then 114 else if n = 8 then 152 else if n = 9 then 153 else if n = 11 then 174 else if n = 13 then 176 else if n = 12 then 175 else if n = 23 then 195 else if n = 24 then 196 else if n = 14 then 186 else if n = 15 then 187 else if n = 16 then 188 else if n = 17 then 189 else if n = 18 then 190 else if n = 19 then 191 else if n = 20 then 192 else if n = 21 then 193 else if n = 22 then 194 else if n = 25 then 203 else if n = 26 then 204 else if n = 27 then 205 else if n = 28 then 206 else if n = 29 then 207 else if n = 30 then 170 else if n = 31 then 211 else n,fun n => if n = 26 then 2 else if n = 28 then 162 else if n = 24 then 25 else if n = 0 then 0 else if n = 3 then 3 else if n = 37 then 196 else if n = 48 then 224 else if n = 50 then 209 else if n = 4 then 4 else if n = 40 then 218 else if n = 39 then 217 else if n = 45 then 151 else if n = 5 then 5 else if n = 9 then 9 else if n = 51 then 231 else if n = 55 then 235 else if n = 57 then 238 else if n = 58 then 239 else if n = 33 then 104 else n,fun n => n⟩
theorem lays_w64q : Go.Proofs.SlLaysZI.n6 Tryz.prog ren_w64q where
 mixed := by kernel_rfl
 f6 := ⟨"slices.Sorted[int64]", by decide, Tryz.func114.trans (congrArg some (by kernel_rfl))⟩
 f8 := ⟨"slices.Collect[int64]", by decide, Tryz.func152.trans (congrArg some (by kernel_rfl))⟩
 f11 := ⟨"slices.AppendSeq[[]int64,int64]", by decide, Tryz.func174.trans (congrArg some (by kernel_rfl))⟩
 t0 := Tryz.underlying0
 a0 := Tryz.isAgg0
 z0 := Tryz.sizeOf0
 v0 := Tryz.zeroValue0
 t24 := Tryz.underlying25
 a24 := Tryz.isAgg25
 z24 := Tryz.sizeOf25
 v24 := Tryz.zeroValue25
 t26 := Tryz.underlying2
 a26 := Tryz.isAgg2
 z26 := Tryz.sizeOf2
 v26 := Tryz.zeroValue2
 t28 := Tryz.underlying162
 a28 := Tryz.isAgg162
 z28 := Tryz.sizeOf162
 v28 := Tryz.zeroValue162
 i26 := by kernel_rfl
def ren_slices_Sorted_int64s : Go.Shelf.Ren := ⟨fun n => if n = 5 then 153 else if n = 8 then 176 else if n = 7 then 175 else if n = 19 then 195 else if n = 20 then 196 else if n = 10 then 186 else if n = 11 then 187 else if n = 12 then 188 else if n = 13 then 189 else if n = 14 then 190 else if n = 15 then 191 else if n = 16 then 192 else if n = 17 then 193 else if n = 18 then 194 else if n = 30 then 203 else if n = 31 then 204 else if n = 32 then 205 else if n = 33 then 206 else if n = 34 then 207 else if n = 35 then 170 else if n = 40 then 211 else n,fun n => if n = 23 then 25 else if n = 25 then 2 else if n = 3 then 3 else if n = 32 then 196 else if n = 22 then 25 else if n = 0 then 0 else if n = 44 then 224 else if n = 46 then 209 else if n = 4 then 4 else if n = 36 then 218 else if n = 35 then 217 else if n = 41 then 151 else if n = 5 then 5 else if n = 9 then 9 else if n = 53 then 231 else if n = 57 then 235 else if n = 63 then 238 else if n = 64 then 239 else n,fun n => n⟩
theorem lays_slices_Sorted_int64s : Go.Proofs.SlLaysM.n5 Tryz.prog ren_slices_Sorted_int64s where
 mixed := by kernel_rfl
 f5 := ⟨"slices.Sort[[]int64,int64]", by decide, Tryz.func153.trans (congrArg some (by kernel_rfl))⟩
 f7 := ⟨"slices.pdqsortOrdered[int64]", by decide, Tryz.func175.trans (congrArg some (by kernel_rfl))⟩
 f8 := Tryz.func176.trans (congrArg some (by kernel_rfl))
 f10 := ⟨"slices.insertionSortOrdered[int64]", by decide, Tryz.func186.trans (congrArg some (by kernel_rfl))⟩
 f11 := ⟨"slices.heapSortOrdered[int64]", by decide, Tryz.func187.trans (congrArg some (by kernel_rfl))⟩
 f12 := ⟨"slices.breakPatternsOrdered[int64]", by decide, Tryz.func188.trans (congrArg some (by kernel_rfl))⟩
 f13 := ⟨"slices.choosePivotOrdered[int64]", by decide, Tryz.func189.trans (congrArg some (by kernel_rfl))⟩
 f14 := ⟨"slices.reverseRangeOrdered[int64]", by decide, Tryz.func190.trans (congrArg some (by kernel_rfl))⟩
 f15 := ⟨"slices.partialInsertionSortOrdered[int64]", by decide, Tryz.func191.trans (congrArg some (by kernel_rfl))⟩
 f16 := ⟨"cmp.Less[int64]", by decide, Tryz.func192.trans (congrArg some (by kernel_rfl))⟩
 f17 := ⟨"slices.partitionEqualOrdered[int64]", by decide, Tryz.func193.trans (congrArg some (by kernel_rfl))⟩
 f18 := ⟨"slices.partitionOrdered[int64]", by decide, Tryz.func194.trans (congrArg some (by kernel_rfl))⟩
 f19 := Tryz.func195.trans (congrArg some (by kernel_rfl))
 f20 := Tryz.func196.trans (congrArg some (by kernel_rfl))
 f30 := ⟨"slices.siftDownOrdered[int64]", by decide, Tryz.func203.trans (congrArg some (by kernel_rfl))⟩
 f31 := Tryz.func204.trans (congrArg some (by kernel_rfl))
 f32 := Tryz.func205.trans (congrArg some (by kernel_rfl))
 f33 := ⟨"slices.medianAdjacentOrdered[int64]", by decide, Tryz.func206.trans (congrArg some (by kernel_rfl))⟩
 f34 := ⟨"slices.medianOrdered[int64]", by decide, Tryz.func207.trans (congrArg some (by kernel_rfl))⟩
 f35 := ⟨"cmp.isNaN[int64]", by decide, Tryz.func170.trans (congrArg some (by kernel_rfl))⟩
 f40 := ⟨"slices.order2Ordered[int64]", by decide, Tryz.func211.trans (congrArg some (by kernel_rfl))⟩
 t0 := Tryz.underlying0
 a0 := Tryz.isAgg0
 z0 := Tryz.sizeOf0
 v0 := Tryz.zeroValue0
 t3 := Tryz.underlying3
 a3 := Tryz.isAgg3
 z3 := Tryz.sizeOf3
 v3 := Tryz.zeroValue3
 t4 := Tryz.underlying4
 a4 := Tryz.isAgg4
 z4 := Tryz.sizeOf4
 v4 := Tryz.zeroValue4
 t5 := Tryz.underlying5
 a5 := Tryz.isAgg5
 z5 := Tryz.sizeOf5
 v5 := Tryz.zeroValue5
 t9 := Tryz.underlying9
 a9 := Tryz.isAgg9
 z9 := Tryz.sizeOf9
 v9 := Tryz.zeroValue9
 t22 := Tryz.underlying25
 a22 := Tryz.isAgg25
 z22 := Tryz.sizeOf25
 v22 := Tryz.zeroValue25
 t23 := Tryz.underlying25
 a23 := Tryz.isAgg25
 z23 := Tryz.sizeOf25
 v23 := Tryz.zeroValue25
 t25 := Tryz.underlying2
 a25 := Tryz.isAgg2
 z25 := Tryz.sizeOf2
 v25 := Tryz.zeroValue2
 t32 := Tryz.underlying196
 a32 := Tryz.isAgg196
 z32 := Tryz.sizeOf196
 v32 := Tryz.zeroValue196
 t35 := Tryz.underlying217
 a35 := Tryz.isAgg217
 z35 := Tryz.sizeOf217
 v35 := Tryz.zeroValue217
 t36 := Tryz.underlying218
 a36 := Tryz.isAgg218
 z36 := Tryz.sizeOf218
 v36 := Tryz.zeroValue218
 t41 := Tryz.underlying151
 a41 := Tryz.isAgg151
 z41 := Tryz.sizeOf151
 v41 := Tryz.zeroValue151
 t44 := Tryz.underlying224
 a44 := Tryz.isAgg224
 z44 := Tryz.sizeOf224
 v44 := Tryz.zeroValue224
 t46 := Tryz.underlying209
 a46 := Tryz.isAgg209
 z46 := Tryz.sizeOf209
 v46 := Tryz.zeroValue209
 t53 := Tryz.underlying231
 a53 := Tryz.isAgg231
 z53 := Tryz.sizeOf231
 v53 := Tryz.zeroValue231
 t57 := Tryz.underlying235
 a57 := Tryz.isAgg235
 z57 := Tryz.sizeOf235
 v57 := Tryz.zeroValue235
 t63 := Tryz.underlying238
 a63 := Tryz.isAgg238
 z63 := Tryz.sizeOf238
 v63 := Tryz.zeroValue238
 t64 := Tryz.underlying239
 a64 := Tryz.isAgg239
 z64 := Tryz.sizeOf239
 v64 := Tryz.zeroValue239
section
attribute [local go_sem] Oper.semAt_some
set_option maxRecDepth 100000 in
set_option maxHeartbeats 2000000 in
theorem values1_w64q (n : Nat) (hn : 1 ≤ n) (l Bs n₀ b off cap : Nat) (zs : List Int) (hreach : zs.length * 8 ≤ 140737488351232) (hb : b < n₀) (w0 : World) (J : List Int → World → Prop) (hB : ∀ pre W1,J pre W1 → Below n₀ w0 W1)
  (hY : ∀ pre x W,J pre W → pre.length < zs.length → YieldAt Fence.wide (n - 1) Tryz.prog l #[.int .i64 x] W fun e W' => e = .returned (.bool true) ∧ J (pre ++ [x]) W' ∧ KeepsWalks W W')
  (W : World) (hBs : W.cell? ⟨Bs,0,none⟩ = some (.slice (some ⟨b,off,none⟩) zs.length cap)) (hc : ∀ j (h : j < zs.length),w0.cell? ⟨b,off + j,none⟩ = some (.int .i64 zs[j])) (h0 : J [] W) :
  CallsIn Fence.wide n Tryz.prog 154 #[.func (.yield l) #[] #[],.pointer (some ⟨Bs,0,none⟩)] W fun e W' => (∃ v,e = .returned v) ∧ J zs W' := by
 have hro : Fence.wide.round = none := rfl
 have h7 : Fence.wide.fn 154 := trivial
 refine callsIn_of_wp Tryz.func154 rfl h7 ?_ hro
 simp only [Tryz.ntmps154,List.size_toArray,List.length_cons,List.length_nil,Nat.reduceAdd,Nat.reduceSub,Array.replicate_succ,Array.replicate_zero,List.push_toArray,List.append_toArray,List.nil_append,List.cons_append]
 gi_wp2
 gi_loopw [7] (fun i wr => ∃ k : Nat,k ≤ zs.length ∧ i = .int .i64 k ∧ J (zs.take k) wr)
  (fun i _ => zs.length - (Go.RowKit.intOf i).toNat)
 case atStart => exact ⟨0,Nat.zero_le _,rfl,h0⟩
 case round =>
  obtain ⟨k,hk,rfl,hJs⟩ := hrel
  have hnx := hB _ _ hJs
  by_cases hlt : k < zs.length
  ·have hcx : wr.cell? ⟨b,off + k,none⟩ = some (.int .i64 zs[k]) := (hnx.cell (p := ⟨b,off + k,none⟩) hb).trans (hc k hlt)
   obtain ⟨fn,tmps,assign,body,hy,hR⟩ := hY _ zs[k] wr hJs (by rw [List.length_take]; omega)
   generalize hzk : zs[k] = zk at hcx hR hy
   gi_wp2
   refine hR.mono ?_
   rintro e W3 ⟨rfl,hJ3,hk3⟩
   gi_wp2
   go_roundw
   case rel => exact ⟨k + 1,by omega,by simp,by rw [List.take_succ_eq_append_getElem hlt,hzk]; exact hJ3⟩
   case measure => simp [Go.RowKit.intOf]; omega
  ·obtain rfl : k = zs.length := by omega
   gi_wp2
   go_end0
   exact ⟨⟨_,rfl⟩,by rw [List.take_length] at hJs; exact hJs⟩
set_option maxRecDepth 100000 in
set_option maxHeartbeats 1000000 in
theorem values0_w64q (n : Nat) (l Bs : Nat) (A : Option Addr) (cap : Nat) (J : List Int → World → Prop) (W : World) (hBs : W.cell? ⟨Bs,0,none⟩ = some (.slice A 0 cap)) (h0 : J [] W) :
  CallsIn Fence.wide n Tryz.prog 154 #[.func (.yield l) #[] #[],.pointer (some ⟨Bs,0,none⟩)] W fun e W' => (∃ v,e = .returned v) ∧ J [] W' := by
 have hro : Fence.wide.round = none := rfl
 have h7 : Fence.wide.fn 154 := trivial
 refine callsIn_of_wp Tryz.func154 rfl h7 ?_ hro
 simp only [Tryz.ntmps154,List.size_toArray,List.length_cons,List.length_nil,Nat.reduceAdd,Nat.reduceSub,Array.replicate_succ,Array.replicate_zero,List.push_toArray,List.append_toArray,List.nil_append,List.cons_append]
 gi_wp2
 gi_loopw [7] (fun i wr => i = .int .i64 0 ∧ J [] wr) (fun _ _ => 0)
 case atStart => exact ⟨rfl,h0⟩
 case round =>
  obtain ⟨rfl,hJs⟩ := hrel
  gi_wp2
  go_end0
  exact ⟨⟨_,rfl⟩,hJs⟩
end
theorem sound_w64q : Sound Tryz.prog 114 S_w64q := sound_sorted fun w Bs zs hr hI => callsIn_wide.1 (sortedB lays_w64q 4 (by omega) (sortsWide lays_slices_Sorted_int64s rfl 3) (enters_of Tryz.func153 (by kernel_rfl) rfl) 154 _ (enters_of Tryz.func154 (by kernel_rfl) rfl) zs (by simp only [maxLen]; omega) (by omega) w (fun W hW => gives_of values1_w64q values0_w64q 1 (by omega) W Bs zs hr (hI.below hW)))
theorem ok_w64q : EnvOK Tryz.prog G_w64q := envOK_sound ok_w63q ⟨_,Tryz.func114,by kernel_rfl,by kernel_rfl⟩ sound_w64q
theorem ok_w65q : EnvOK Tryz.prog G_w65q := okc ok_w64q Tryz.func113 (by kernel_rfl) a_w65q 0 p_w65q (fun _ _ => by kernel_rfl) fun _ => rfl
theorem ok_w66q : EnvOK Tryz.prog G_w66q := okc ok_w65q Tryz.func63 (by kernel_rfl) a_w66q 1 p_w66q (fun _ _ => by kernel_rfl) fun _ => rfl
theorem ok_w67q : EnvOK Tryz.prog G_w67q := okc ok_w66q Tryz.func118 (by kernel_rfl) a_w67q 6 p_w67q (fun _ _ => by kernel_rfl) fun _ => rfl
theorem ok_w68q : EnvOK Tryz.prog G_w68q := okc ok_w67q Tryz.func67 (by kernel_rfl) a_w68q 1 p_w68q (fun _ _ => by kernel_rfl) fun _ => rfl
theorem ok_w69q : EnvOK Tryz.prog G_w69q := okc ok_w68q Tryz.func158 (by kernel_rfl) a_w69q 0 p_w69q (fun _ _ => by kernel_rfl) fun _ => rfl
theorem ok_w70q : EnvOK Tryz.prog G_w70q := okc ok_w69q Tryz.func119 (by kernel_rfl) a_w70q 0 p_w70q (fun _ _ => by kernel_rfl) fun _ => rfl
theorem ok_w71q : EnvOK Tryz.prog G_w71q := okc ok_w70q Tryz.func64 (by kernel_rfl) a_w71q 3 p_w71q (fun _ _ => by kernel_rfl) fun _ => rfl
theorem ok_w72q : EnvOK Tryz.prog G_w72q := okc ok_w71q Tryz.func16 (by kernel_rfl) a_w72q 2 p_w72q (fun _ _ => by kernel_rfl) fun _ => rfl
def ren_w73q : Go.Shelf.Ren := ⟨fun n => if n = 173 then 134 else if n = 246 then 165 else if n = 283 then 179 else if n = 284 then 180 else if n = 285 then 181 else if n = 286 then 182 else if n = 129 then 196 else if n = 317 then 198 else if n = 318 then 199 else if n = 319 then 200 else if n = 320 then 201 else if n = 337 then 209 else if n = 338 then 210 else n,fun n => if n = 2 then 2 else if n = 3 then 3 else if n = 9 then 9 else if n = 4 then 4 else if n = 171 then 208 else if n = 0 then 0 else if n = 53 then 209 else if n = 37 then 41 else if n = 5 then 5 else if n = 173 then 212 else if n = 212 then 227 else if n = 51 then 224 else if n = 20 then 20 else if n = 213 then 228 else if n = 46 then 196 else if n = 232 then 241 else if n = 233 then 242 else n,fun n => if n = 17 then 0 else if n = 18 then 2 else if n = 19 then 3 else n⟩
theorem lays_w73q : Go.Proofs.LaysM.n173 Tryz.prog ren_w73q where
 mixed := by kernel_rfl
 f129 := Tryz.func196.trans (congrArg some (by kernel_rfl))
 f173 := Tryz.func134.trans (congrArg some (by kernel_rfl))
 f246 := Tryz.func165.trans (congrArg some (by kernel_rfl))
 f283 := Tryz.func179.trans (congrArg some (by kernel_rfl))
 f284 := Tryz.func180.trans (congrArg some (by kernel_rfl))
 f285 := Tryz.func181.trans (congrArg some (by kernel_rfl))
 f286 := Tryz.func182.trans (congrArg some (by kernel_rfl))
 f317 := Tryz.func198.trans (congrArg some (by kernel_rfl))
 f318 := Tryz.func199.trans (congrArg some (by kernel_rfl))
 f319 := Tryz.func200.trans (congrArg some (by kernel_rfl))
 f320 := Tryz.func201.trans (congrArg some (by kernel_rfl))
 f337 := Tryz.func209.trans (congrArg some (by kernel_rfl))
 f338 := Tryz.func210.trans (congrArg some (by kernel_rfl))
 t0 := Tryz.underlying0
 a0 := Tryz.isAgg0
 z0 := Tryz.sizeOf0
 v0 := Tryz.zeroValue0
 t2 := Tryz.underlying2
 a2 := Tryz.isAgg2
 z2 := Tryz.sizeOf2
 v2 := Tryz.zeroValue2
 t3 := Tryz.underlying3
 a3 := Tryz.isAgg3
 z3 := Tryz.sizeOf3
 v3 := Tryz.zeroValue3
 t4 := Tryz.underlying4
 a4 := Tryz.isAgg4
 z4 := Tryz.sizeOf4
 v4 := Tryz.zeroValue4
 t5 := Tryz.underlying5
 a5 := Tryz.isAgg5
 z5 := Tryz.sizeOf5
 v5 := Tryz.zeroValue5
 t9 := Tryz.underlying9
 a9 := Tryz.isAgg9
 z9 := Tryz.sizeOf9
 v9 := Tryz.zeroValue9
 t20 := Tryz.underlying20
 a20 := Tryz.isAgg20
 z20 := Tryz.sizeOf20
 v20 := Tryz.zeroValue20
 t37 := Tryz.underlying41
 a37 := Tryz.isAgg41
 z37 := Tryz.sizeOf41
 v37 := Tryz.zeroValue41
 t46 := Tryz.underlying196
 a46 := Tryz.isAgg196
 z46 := Tryz.sizeOf196
 v46 := Tryz.zeroValue196
 t51 := Tryz.underlying224
 a51 := Tryz.isAgg224
 z51 := Tryz.sizeOf224
 v51 := Tryz.zeroValue224
 t53 := Tryz.underlying209
 a53 := Tryz.isAgg209
 z53 := Tryz.sizeOf209
 v53 := Tryz.zeroValue209
 t171 := Tryz.underlying208
 a171 := Tryz.isAgg208
 z171 := Tryz.sizeOf208
 v171 := Tryz.zeroValue208
 t173 := Tryz.underlying212
 a173 := Tryz.isAgg212
 z173 := Tryz.sizeOf212
 v173 := Tryz.zeroValue212
 t212 := Tryz.underlying227
 a212 := Tryz.isAgg227
 z212 := Tryz.sizeOf227
 v212 := Tryz.zeroValue227
 t213 := Tryz.underlying228
 a213 := Tryz.isAgg228
 z213 := Tryz.sizeOf228
 t232 := Tryz.underlying241
 a232 := Tryz.isAgg241
 z232 := Tryz.sizeOf241
 v232 := Tryz.zeroValue241
 t233 := Tryz.underlying242
 a233 := Tryz.isAgg242
 z233 := Tryz.sizeOf242
 v233 := Tryz.zeroValue242
 g17 := by kernel_rfl
 g18 := by kernel_rfl
 g19 := by kernel_rfl
 i0 := by kernel_rfl
 i2 := by kernel_rfl
 i3 := by kernel_rfl
 i4 := by kernel_rfl
 i5 := by kernel_rfl
 i9 := by kernel_rfl
 i20 := by kernel_rfl
 i37 := by kernel_rfl
 i46 := by kernel_rfl
 i51 := by kernel_rfl
 i53 := by kernel_rfl
 i171 := by kernel_rfl
 i173 := by kernel_rfl
 i212 := by kernel_rfl
 i232 := by kernel_rfl
 i233 := by kernel_rfl
 m17 := by kernel_rfl
 m18 := by kernel_rfl
 m19 := by kernel_rfl
theorem sound_w73q : Sound Tryz.prog 134 S_w73q := sound_fmt lays_w73q (by kernel_rfl)
theorem ok_w73q : EnvOK Tryz.prog G_w73q := envOK_sound ok_w72q ⟨_,Tryz.func134,by kernel_rfl,by kernel_rfl⟩ sound_w73q
theorem ok_w74q : EnvOK Tryz.prog G_w74q := okc ok_w73q Tryz.func83 (by kernel_rfl) a_w74q 0 p_w74q (fun _ _ => by kernel_rfl) fun _ => rfl
def ren_w75q : Go.Shelf.Ren := ⟨fun n => if n = 156 then 84 else if n = 165 then 135 else if n = 166 then 35 else if n = 169 then 37 else if n = 240 then 82 else if n = 241 then 166 else if n = 276 then 133 else if n = 277 then 183 else n,fun n => if n = 31 then 130 else if n = 9 then 9 else if n = 3 then 3 else if n = 4 then 4 else if n = 0 then 0 else if n = 20 then 20 else if n = 72 then 78 else if n = 76 then 81 else if n = 70 then 76 else if n = 37 then 41 else if n = 75 then 80 else if n = 127 then 133 else if n = 164 then 175 else if n = 5 then 5 else if n = 80 then 88 else n,fun n => n⟩
theorem lays_w75q : Go.Proofs.Lays.n156 Tryz.prog ren_w75q where
 mixed := by kernel_rfl
 f156 := Tryz.func84.trans (congrArg some (by kernel_rfl))
 f165 := Tryz.func135.trans (congrArg some (by kernel_rfl))
 f166 := Tryz.func35.trans (congrArg some (by kernel_rfl))
 f169 := Tryz.func37.trans (congrArg some (by kernel_rfl))
 f240 := Tryz.func82.trans (congrArg some (by kernel_rfl))
 f241 := Tryz.func166.trans (congrArg some (by kernel_rfl))
 f276 := Tryz.func133.trans (congrArg some (by kernel_rfl))
 f277 := Tryz.func183.trans (congrArg some (by kernel_rfl))
 t0 := Tryz.underlying0
 a0 := Tryz.isAgg0
 z0 := Tryz.sizeOf0
 v0 := Tryz.zeroValue0
 t3 := Tryz.underlying3
 a3 := Tryz.isAgg3
 z3 := Tryz.sizeOf3
 v3 := Tryz.zeroValue3
 t4 := Tryz.underlying4
 a4 := Tryz.isAgg4
 z4 := Tryz.sizeOf4
 v4 := Tryz.zeroValue4
 t9 := Tryz.underlying9
 a9 := Tryz.isAgg9
 z9 := Tryz.sizeOf9
 v9 := Tryz.zeroValue9
 t20 := Tryz.underlying20
 a20 := Tryz.isAgg20
 z20 := Tryz.sizeOf20
 v20 := Tryz.zeroValue20
 t31 := Tryz.underlying130
 a31 := Tryz.isAgg130
 z31 := Tryz.sizeOf130
 v31 := Tryz.zeroValue130
 t37 := Tryz.underlying41
 a37 := Tryz.isAgg41
 z37 := Tryz.sizeOf41
 v37 := Tryz.zeroValue41
 t70 := Tryz.underlying76
 a70 := Tryz.isAgg76
 z70 := Tryz.sizeOf76
 v70 := Tryz.zeroValue76
 t72 := Tryz.underlying78
 a72 := Tryz.isAgg78
 z72 := Tryz.sizeOf78
 v72 := Tryz.zeroValue78
 t75 := Tryz.underlying80
 a75 := Tryz.isAgg80
 z75 := Tryz.sizeOf80
 v75 := Tryz.zeroValue80
 t76 := Tryz.underlying81
 a76 := Tryz.isAgg81
 z76 := Tryz.sizeOf81
 v76 := Tryz.zeroValue81
 t127 := Tryz.underlying133
 a127 := Tryz.isAgg133
 z127 := Tryz.sizeOf133
 v127 := Tryz.zeroValue133
 t164 := Tryz.underlying175
 a164 := Tryz.isAgg175
 z164 := Tryz.sizeOf175
 v164 := Tryz.zeroValue175
theorem xtra_w75q : Go.Proofs.Builder.Extra Tryz.prog ren_w75q where
 sizeBuilder := by kernel_rfl
 liesBuilder := by kernel_rfl
 t5 := Tryz.underlying5
 a5 := Tryz.isAgg5
 z5 := Tryz.sizeOf5
 v5 := Tryz.zeroValue5
 infoByte := by kernel_rfl
 cellsByte := by kernel_rfl
 sizeByte := by kernel_rfl
 neB5 := by decide
theorem sound_w75q : Sound Tryz.prog 84 S_w75q := sound_join lays_w75q xtra_w75q
theorem ok_w75q : EnvOK Tryz.prog G_w75q := envOK_sound ok_w74q ⟨_,Tryz.func84,by kernel_rfl,by kernel_rfl⟩ sound_w75q
theorem ok_w76q : EnvOK Tryz.prog G_w76q := okc ok_w75q Tryz.func36 (by kernel_rfl) a_w76q 0 p_w76q (fun _ _ => by kernel_rfl) fun _ => rfl
def ren_w77q : Go.Shelf.Ren := ⟨fun n => if n = 156 then 84 else if n = 165 then 135 else if n = 166 then 35 else if n = 169 then 37 else if n = 240 then 82 else if n = 241 then 166 else if n = 276 then 133 else if n = 277 then 183 else n,fun n => if n = 31 then 130 else if n = 9 then 9 else if n = 3 then 3 else if n = 4 then 4 else if n = 0 then 0 else if n = 20 then 20 else if n = 72 then 78 else if n = 76 then 81 else if n = 70 then 76 else if n = 37 then 41 else if n = 75 then 80 else if n = 127 then 133 else if n = 164 then 175 else if n = 5 then 5 else if n = 80 then 88 else n,fun n => n⟩
theorem lays_w77q : Go.Proofs.Lays.n166 Tryz.prog ren_w77q where
 mixed := by kernel_rfl
 f166 := Tryz.func35.trans (congrArg some (by kernel_rfl))
 f240 := Tryz.func82.trans (congrArg some (by kernel_rfl))
 f276 := Tryz.func133.trans (congrArg some (by kernel_rfl))
 t0 := Tryz.underlying0
 a0 := Tryz.isAgg0
 z0 := Tryz.sizeOf0
 v0 := Tryz.zeroValue0
 t3 := Tryz.underlying3
 a3 := Tryz.isAgg3
 z3 := Tryz.sizeOf3
 v3 := Tryz.zeroValue3
 t4 := Tryz.underlying4
 a4 := Tryz.isAgg4
 z4 := Tryz.sizeOf4
 v4 := Tryz.zeroValue4
 t9 := Tryz.underlying9
 a9 := Tryz.isAgg9
 z9 := Tryz.sizeOf9
 v9 := Tryz.zeroValue9
 t20 := Tryz.underlying20
 a20 := Tryz.isAgg20
 z20 := Tryz.sizeOf20
 v20 := Tryz.zeroValue20
 t37 := Tryz.underlying41
 a37 := Tryz.isAgg41
 z37 := Tryz.sizeOf41
 v37 := Tryz.zeroValue41
 t70 := Tryz.underlying76
 a70 := Tryz.isAgg76
 z70 := Tryz.sizeOf76
 v70 := Tryz.zeroValue76
 t72 := Tryz.underlying78
 a72 := Tryz.isAgg78
 z72 := Tryz.sizeOf78
 v72 := Tryz.zeroValue78
 t75 := Tryz.underlying80
 a75 := Tryz.isAgg80
 z75 := Tryz.sizeOf80
 v75 := Tryz.zeroValue80
 t164 := Tryz.underlying175
 a164 := Tryz.isAgg175
 z164 := Tryz.sizeOf175
 v164 := Tryz.zeroValue175
theorem xtra_w77q : Go.Proofs.Builder.Extra Tryz.prog ren_w77q where
 sizeBuilder := by kernel_rfl
 liesBuilder := by kernel_rfl
 t5 := Tryz.underlying5
 a5 := Tryz.isAgg5
 z5 := Tryz.sizeOf5
 v5 := Tryz.zeroValue5
 infoByte := by kernel_rfl
 cellsByte := by kernel_rfl
 sizeByte := by kernel_rfl
 neB5 := by decide
theorem bld_w77q : BldOK Tryz.prog 35 S_w77q := fun t e h => by
 simp only [S_w77q,bldF,Option.some.injEq,Prod.mk.injEq] at h
 obtain ⟨rfl,rfl⟩ := h
 exact ⟨fun _ => write_ok lays_w77q xtra_w77q,fun h => by cases h⟩
theorem sound_w77q : Sound Tryz.prog 35 S_w77q := fun w R vs x D hs _ _ _ _ r hr => by cases hr
theorem ok_w77q : EnvOK Tryz.prog G_w77q := envOK_sound ok_w76q ⟨_,Tryz.func35,by kernel_rfl,by kernel_rfl⟩ sound_w77q bld_w77q
def ren_w78q : Go.Shelf.Ren := ⟨fun n => if n = 156 then 84 else if n = 165 then 135 else if n = 166 then 35 else if n = 169 then 37 else if n = 240 then 82 else if n = 241 then 166 else if n = 276 then 133 else if n = 277 then 183 else n,fun n => if n = 31 then 130 else if n = 9 then 9 else if n = 3 then 3 else if n = 4 then 4 else if n = 0 then 0 else if n = 20 then 20 else if n = 72 then 78 else if n = 76 then 81 else if n = 70 then 76 else if n = 37 then 41 else if n = 75 then 80 else if n = 127 then 133 else if n = 164 then 175 else if n = 5 then 5 else if n = 80 then 88 else n,fun n => n⟩
theorem lays_w78q : Go.Proofs.Lays.n169 Tryz.prog ren_w78q where
 mixed := by kernel_rfl
 f169 := Tryz.func37.trans (congrArg some (by kernel_rfl))
 t0 := Tryz.underlying0
 a0 := Tryz.isAgg0
 z0 := Tryz.sizeOf0
 v0 := Tryz.zeroValue0
 t3 := Tryz.underlying3
 a3 := Tryz.isAgg3
 z3 := Tryz.sizeOf3
 v3 := Tryz.zeroValue3
 t9 := Tryz.underlying9
 a9 := Tryz.isAgg9
 z9 := Tryz.sizeOf9
 v9 := Tryz.zeroValue9
 t37 := Tryz.underlying41
 a37 := Tryz.isAgg41
 z37 := Tryz.sizeOf41
 v37 := Tryz.zeroValue41
 t70 := Tryz.underlying76
 a70 := Tryz.isAgg76
 z70 := Tryz.sizeOf76
 v70 := Tryz.zeroValue76
 t72 := Tryz.underlying78
 a72 := Tryz.isAgg78
 z72 := Tryz.sizeOf78
 v72 := Tryz.zeroValue78
 t127 := Tryz.underlying133
 a127 := Tryz.isAgg133
 z127 := Tryz.sizeOf133
 v127 := Tryz.zeroValue133
theorem xtra_w78q : Go.Proofs.Builder.Extra Tryz.prog ren_w78q where
 sizeBuilder := by kernel_rfl
 liesBuilder := by kernel_rfl
 t5 := Tryz.underlying5
 a5 := Tryz.isAgg5
 z5 := Tryz.sizeOf5
 v5 := Tryz.zeroValue5
 infoByte := by kernel_rfl
 cellsByte := by kernel_rfl
 sizeByte := by kernel_rfl
 neB5 := by decide
theorem bld_w78q : BldOK Tryz.prog 37 S_w78q := fun t e h => by
 simp only [S_w78q,bldF,Option.some.injEq,Prod.mk.injEq] at h
 obtain ⟨rfl,rfl⟩ := h
 exact ⟨fun h => (by cases h),fun _ => string_ok lays_w78q xtra_w78q⟩
theorem sound_w78q : Sound Tryz.prog 37 S_w78q := fun w R vs x D hs _ _ _ _ r hr => by cases hr
theorem ok_w78q : EnvOK Tryz.prog G_w78q := envOK_sound ok_w77q ⟨_,Tryz.func37,by kernel_rfl,by kernel_rfl⟩ sound_w78q bld_w78q
theorem ok_w79q : EnvOK Tryz.prog G_w79q := okc ok_w78q Tryz.func9 (by kernel_rfl) a_w79q 0 p_w79q (fun _ _ => by kernel_rfl) fun _ => rfl
theorem ok_w80q : EnvOK Tryz.prog G_w80q := okc ok_w79q Tryz.func10 (by kernel_rfl) a_w80q 0 p_w80q (fun _ _ => by kernel_rfl) fun _ => rfl
theorem ok_w81q : EnvOK Tryz.prog G_w81q := okc ok_w80q Tryz.func85 (by kernel_rfl) a_w81q 0 p_w81q (fun _ _ => by kernel_rfl) fun _ => rfl
theorem ok_w82q : EnvOK Tryz.prog G_w82q := okc ok_w81q Tryz.func38 (by kernel_rfl) a_w82q 0 p_w82q (fun _ _ => by kernel_rfl) fun _ => rfl
theorem ok_w83q : EnvOK Tryz.prog G_w83q := okc ok_w82q Tryz.func86 (by kernel_rfl) a_w83q 0 p_w83q (fun _ _ => by kernel_rfl) fun _ => rfl
theorem ok_w84q : EnvOK Tryz.prog G_w84q := okc ok_w83q Tryz.func39 (by kernel_rfl) a_w84q 0 p_w84q (fun _ _ => by kernel_rfl) fun _ => rfl
theorem ok_w85q : EnvOK Tryz.prog G_w85q := okc ok_w84q Tryz.func167 (by kernel_rfl) a_w85q 0 p_w85q (fun _ _ => by kernel_rfl) fun _ => rfl
theorem ok_w86q : EnvOK Tryz.prog G_w86q := okc ok_w85q Tryz.func136 (by kernel_rfl) a_w86q 0 p_w86q (fun _ _ => by kernel_rfl) fun _ => rfl
theorem ok_w87q : EnvOK Tryz.prog G_w87q := okc ok_w86q Tryz.func87 (by kernel_rfl) a_w87q 0 p_w87q (fun _ _ => by kernel_rfl) fun _ => rfl
theorem ok_w88q : EnvOK Tryz.prog G_w88q := okc ok_w87q Tryz.func40 (by kernel_rfl) a_w88q 0 p_w88q (fun _ _ => by kernel_rfl) fun _ => rfl
theorem ok_w89q : EnvOK Tryz.prog G_w89q := okc ok_w88q Tryz.func41 (by kernel_rfl) a_w89q 0 p_w89q (fun _ _ => by kernel_rfl) fun _ => rfl
theorem ok_w90q : EnvOK Tryz.prog G_w90q := okc ok_w89q Tryz.func11 (by kernel_rfl) a_w90q 0 p_w90q (fun _ _ => by kernel_rfl) fun _ => rfl
theorem ok_w91q : EnvOK Tryz.prog G_w91q := okc ok_w90q Tryz.func3 (by kernel_rfl) a_w91q 0 p_w91q (fun _ _ => by kernel_rfl) fun _ => rfl
end Go.RvP
