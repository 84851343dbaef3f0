/- Each function of the program is as its plain function says, for FnExactWriteBatch. No condition. -/
import Derived.Test.YtbeplmdadjgamaaGreatRvP10
import Derived.Test.YtbeplmdadjgamaaGreatProg
import Derived.KernelRfl
import Derived.StillTailTactics
import Derived.LoopN
import Derived.RegionCalls
import Derived.WalkKit
namespace Go.RvP
open Go Go.Rv Go.Proofs Go.Shelf Go.RowKit Go.Lib Go.Sort
set_option maxRecDepth 100000
theorem hm : Tryz.prog.follows .mixedOrders = true := by kernel_rfl
theorem hT : TabOK Tryz.prog T := tabOK_of (by kernel_rfl)
noncomputable def BB : Bodies := [(30, Tryz.f30), (31, Tryz.f31), (99, Tryz.f99), (100, Tryz.f100), (106, Tryz.f106), (194, Tryz.f194), (198, Tryz.f198), (216, Tryz.f216), (287, Tryz.f287), (288, Tryz.f288), (333, Tryz.f333)]
theorem hBB : BodyOK Tryz.prog BB := (bodyOK_cons Tryz.func30 (by kernel_rfl) (bodyOK_cons Tryz.func31 (by kernel_rfl) (bodyOK_cons Tryz.func99 (by kernel_rfl) (bodyOK_cons Tryz.func100 (by kernel_rfl) (bodyOK_cons Tryz.func106 (by kernel_rfl) (bodyOK_cons Tryz.func194 (by kernel_rfl) (bodyOK_cons Tryz.func198 (by kernel_rfl) (bodyOK_cons Tryz.func216 (by kernel_rfl) (bodyOK_cons Tryz.func287 (by kernel_rfl) (bodyOK_cons Tryz.func288 (by kernel_rfl) (bodyOK_cons Tryz.func333 (by kernel_rfl) bodyOK_nil)))))))))))
theorem e_laws_szByteS (n : Nat) (x) : afun [] T BB 0 n Tryz.f184 a_laws_szByteS S_laws_szByteS.ps S_laws_szByteS.rs x = p_laws_szByteS n x := by kernel_rfl
theorem ok_laws_szByteS : EnvOK Tryz.prog G_laws_szByteS := envOK_cons hm hT envOK_nil Tryz.func184 (by kernel_rfl) hBB fun x r hr => ⟨FU, (e_laws_szByteS FU x).trans hr⟩
theorem e_laws_szLog (n : Nat) (x) : afun G_laws_szByteS T BB 0 n Tryz.f80 a_laws_szLog S_laws_szLog.ps S_laws_szLog.rs x = p_laws_szLog n x := by kernel_rfl
theorem ok_laws_szLog : EnvOK Tryz.prog G_laws_szLog := envOK_cons hm hT ok_laws_szByteS Tryz.func80 (by kernel_rfl) hBB fun x r hr => ⟨FU, (e_laws_szLog FU x).trans hr⟩
theorem e_laws_szRow (n : Nat) (x) : afun G_laws_szLog T BB 0 n Tryz.f185 a_laws_szRow S_laws_szRow.ps S_laws_szRow.rs x = p_laws_szRow n x := by kernel_rfl
theorem ok_laws_szRow : EnvOK Tryz.prog G_laws_szRow := envOK_cons hm hT ok_laws_szLog Tryz.func185 (by kernel_rfl) hBB fun x r hr => ⟨FU, (e_laws_szRow FU x).trans hr⟩
theorem e_laws_szRowS (n : Nat) (x) : afun G_laws_szRow T BB 0 n Tryz.f81 a_laws_szRowS S_laws_szRowS.ps S_laws_szRowS.rs x = p_laws_szRowS n x := by kernel_rfl
theorem ok_laws_szRowS : EnvOK Tryz.prog G_laws_szRowS := envOK_cons hm hT ok_laws_szRow Tryz.func81 (by kernel_rfl) hBB fun x r hr => ⟨FU, (e_laws_szRowS FU x).trans hr⟩
theorem e_laws_szRowSS (n : Nat) (x) : afun G_laws_szRowS T BB 0 n Tryz.f82 a_laws_szRowSS S_laws_szRowSS.ps S_laws_szRowSS.rs x = p_laws_szRowSS n x := by kernel_rfl
theorem ok_laws_szRowSS : EnvOK Tryz.prog G_laws_szRowSS := envOK_cons hm hT ok_laws_szRowS Tryz.func82 (by kernel_rfl) hBB fun x r hr => ⟨FU, (e_laws_szRowSS FU x).trans hr⟩
theorem e_laws_szEngine (n : Nat) (x) : afun G_laws_szRowSS T BB 0 n Tryz.f22 a_laws_szEngine S_laws_szEngine.ps S_laws_szEngine.rs x = p_laws_szEngine n x := by kernel_rfl
theorem ok_laws_szEngine : EnvOK Tryz.prog G_laws_szEngine := envOK_cons hm hT ok_laws_szRowSS Tryz.func22 (by kernel_rfl) hBB fun x r hr => ⟨FU, (e_laws_szEngine FU x).trans hr⟩
theorem e_laws_szWrite (n : Nat) (x) : afun G_laws_szEngine T BB 0 n Tryz.f128 a_laws_szWrite S_laws_szWrite.ps S_laws_szWrite.rs x = p_laws_szWrite n x := by kernel_rfl
theorem ok_laws_szWrite : EnvOK Tryz.prog G_laws_szWrite := envOK_cons hm hT ok_laws_szEngine Tryz.func128 (by kernel_rfl) hBB fun x r hr => ⟨FU, (e_laws_szWrite FU x).trans hr⟩
theorem e_laws_szWriteS (n : Nat) (x) : afun G_laws_szWrite T BB 0 n Tryz.f47 a_laws_szWriteS S_laws_szWriteS.ps S_laws_szWriteS.rs x = p_laws_szWriteS n x := by kernel_rfl
theorem ok_laws_szWriteS : EnvOK Tryz.prog G_laws_szWriteS := envOK_cons hm hT ok_laws_szWrite Tryz.func47 (by kernel_rfl) hBB fun x r hr => ⟨FU, (e_laws_szWriteS FU x).trans hr⟩
theorem e_laws_toByteS (n : Nat) (x) : afun G_laws_szWriteS T BB 0 n Tryz.f190 a_laws_toByteS S_laws_toByteS.ps S_laws_toByteS.rs x = p_laws_toByteS n x := by kernel_rfl
theorem ok_laws_toByteS : EnvOK Tryz.prog G_laws_toByteS := envOK_cons hm hT ok_laws_szWriteS Tryz.func190 (by kernel_rfl) hBB fun x r hr => ⟨FU, (e_laws_toByteS FU x).trans hr⟩
theorem e_laws_toLog (n : Nat) (x) : afun G_laws_toByteS T BB 0 n Tryz.f88 a_laws_toLog S_laws_toLog.ps S_laws_toLog.rs x = p_laws_toLog n x := by kernel_rfl
theorem ok_laws_toLog : EnvOK Tryz.prog G_laws_toLog := envOK_cons hm hT ok_laws_toByteS Tryz.func88 (by kernel_rfl) hBB fun x r hr => ⟨FU, (e_laws_toLog FU x).trans hr⟩
theorem e_laws_toRow (n : Nat) (x) : afun G_laws_toLog T BB 0 n Tryz.f191 a_laws_toRow S_laws_toRow.ps S_laws_toRow.rs x = p_laws_toRow n x := by kernel_rfl
theorem ok_laws_toRow : EnvOK Tryz.prog G_laws_toRow := envOK_cons hm hT ok_laws_toLog Tryz.func191 (by kernel_rfl) hBB fun x r hr => ⟨FU, (e_laws_toRow FU x).trans hr⟩
theorem e_laws_toRowS (n : Nat) (x) : afun G_laws_toRow T BB 0 n Tryz.f89 a_laws_toRowS S_laws_toRowS.ps S_laws_toRowS.rs x = p_laws_toRowS n x := by kernel_rfl
theorem ok_laws_toRowS : EnvOK Tryz.prog G_laws_toRowS := envOK_cons hm hT ok_laws_toRow Tryz.func89 (by kernel_rfl) hBB fun x r hr => ⟨FU, (e_laws_toRowS FU x).trans hr⟩
theorem e_laws_toRowSS (n : Nat) (x) : afun G_laws_toRowS T BB 0 n Tryz.f90 a_laws_toRowSS S_laws_toRowSS.ps S_laws_toRowSS.rs x = p_laws_toRowSS n x := by kernel_rfl
theorem ok_laws_toRowSS : EnvOK Tryz.prog G_laws_toRowSS := envOK_cons hm hT ok_laws_toRowS Tryz.func90 (by kernel_rfl) hBB fun x r hr => ⟨FU, (e_laws_toRowSS FU x).trans hr⟩
theorem e_laws_toEngine (n : Nat) (x) : afun G_laws_toRowSS T BB 0 n Tryz.f24 a_laws_toEngine S_laws_toEngine.ps S_laws_toEngine.rs x = p_laws_toEngine n x := by kernel_rfl
theorem ok_laws_toEngine : EnvOK Tryz.prog G_laws_toEngine := envOK_cons hm hT ok_laws_toRowSS Tryz.func24 (by kernel_rfl) hBB fun x r hr => ⟨FU, (e_laws_toEngine FU x).trans hr⟩
theorem e_laws_toWrite (n : Nat) (x) : afun G_laws_toEngine T BB 0 n Tryz.f135 a_laws_toWrite S_laws_toWrite.ps S_laws_toWrite.rs x = p_laws_toWrite n x := by kernel_rfl
theorem ok_laws_toWrite : EnvOK Tryz.prog G_laws_toWrite := envOK_cons hm hT ok_laws_toEngine Tryz.func135 (by kernel_rfl) hBB fun x r hr => ⟨FU, (e_laws_toWrite FU x).trans hr⟩
theorem e_laws_toWriteS (n : Nat) (x) : afun G_laws_toWrite T BB 0 n Tryz.f49 a_laws_toWriteS S_laws_toWriteS.ps S_laws_toWriteS.rs x = p_laws_toWriteS n x := by kernel_rfl
theorem ok_laws_toWriteS : EnvOK Tryz.prog G_laws_toWriteS := envOK_cons hm hT ok_laws_toWrite Tryz.func49 (by kernel_rfl) hBB fun x r hr => ⟨FU, (e_laws_toWriteS FU x).trans hr⟩
theorem e_spec_LogFault (n : Nat) (x) : afun G_laws_toWriteS T BB 0 n Tryz.f83 a_spec_LogFault S_spec_LogFault.ps S_spec_LogFault.rs x = p_spec_LogFault n x := by kernel_rfl
theorem ok_spec_LogFault : EnvOK Tryz.prog G_spec_LogFault := envOK_cons hm hT ok_laws_toWriteS Tryz.func83 (by kernel_rfl) hBB fun x r hr => ⟨FU, (e_spec_LogFault FU x).trans hr⟩
theorem e_spec_l1In (n : Nat) (x) : afun G_spec_LogFault T BB 0 n Tryz.f63 a_spec_l1In S_spec_l1In.ps S_spec_l1In.rs x = p_spec_l1In n x := by kernel_rfl
theorem ok_spec_l1In : EnvOK Tryz.prog G_spec_l1In := envOK_cons hm hT ok_spec_LogFault Tryz.func63 (by kernel_rfl) hBB fun x r hr => ⟨FU, (e_spec_l1In FU x).trans hr⟩
theorem e_spec_RowFault (n : Nat) (x) : afun G_spec_l1In T BB 0 n Tryz.f186 a_spec_RowFault S_spec_RowFault.ps S_spec_RowFault.rs x = p_spec_RowFault n x := by kernel_rfl
theorem ok_spec_RowFault : EnvOK Tryz.prog G_spec_RowFault := envOK_cons hm hT ok_spec_l1In Tryz.func186 (by kernel_rfl) hBB fun x r hr => ⟨FU, (e_spec_RowFault FU x).trans hr⟩
theorem e_spec_l5Ahead (n : Nat) (x) : afun G_spec_RowFault T BB 0 n Tryz.f187 a_spec_l5Ahead S_spec_l5Ahead.ps S_spec_l5Ahead.rs x = p_spec_l5Ahead n x := by kernel_rfl
theorem ok_spec_l5Ahead : EnvOK Tryz.prog G_spec_l5Ahead := envOK_cons hm hT ok_spec_RowFault Tryz.func187 (by kernel_rfl) hBB fun x r hr => ⟨FU, (e_spec_l5Ahead FU x).trans hr⟩
theorem e_spec_TableFault (n : Nat) (x) : afun G_spec_l5Ahead T BB 0 n Tryz.f84 a_spec_TableFault S_spec_TableFault.ps S_spec_TableFault.rs x = p_spec_TableFault n x := by kernel_rfl
theorem ok_spec_TableFault : EnvOK Tryz.prog G_spec_TableFault := envOK_cons hm hT ok_spec_l5Ahead Tryz.func84 (by kernel_rfl) hBB fun x r hr => ⟨FU, (e_spec_TableFault FU x).trans hr⟩
theorem e_spec_l6Below (n : Nat) (x) : afun G_spec_TableFault T BB 0 n Tryz.f85 a_spec_l6Below S_spec_l6Below.ps S_spec_l6Below.rs x = p_spec_l6Below n x := by kernel_rfl
theorem ok_spec_l6Below : EnvOK Tryz.prog G_spec_l6Below := envOK_cons hm hT ok_spec_TableFault Tryz.func85 (by kernel_rfl) hBB fun x r hr => ⟨FU, (e_spec_l6Below FU x).trans hr⟩
theorem e_spec_l4Sync (n : Nat) (x) : afun G_spec_l6Below T BB 0 n Tryz.f132 a_spec_l4Sync S_spec_l4Sync.ps S_spec_l4Sync.rs x = p_spec_l4Sync n x := by kernel_rfl
theorem ok_spec_l4Sync : EnvOK Tryz.prog G_spec_l4Sync := envOK_cons hm hT ok_spec_l6Below Tryz.func132 (by kernel_rfl) hBB fun x r hr => ⟨FU, (e_spec_l4Sync FU x).trans hr⟩
theorem e_spec_CheckOf (n : Nat) (x) : afun G_spec_l4Sync T BB 0 n Tryz.f268 a_spec_CheckOf S_spec_CheckOf.ps S_spec_CheckOf.rs x = p_spec_CheckOf n x := by kernel_rfl
theorem ok_spec_CheckOf : EnvOK Tryz.prog G_spec_CheckOf := envOK_cons hm hT ok_spec_l4Sync Tryz.func268 (by kernel_rfl) hBB fun x r hr => ⟨FU, (e_spec_CheckOf FU x).trans hr⟩
theorem e_spec_l3Records (n : Nat) (x) : afun G_spec_CheckOf T BB 0 n Tryz.f188 a_spec_l3Records S_spec_l3Records.ps S_spec_l3Records.rs x = p_spec_l3Records n x := by kernel_rfl
theorem ok_spec_l3Records : EnvOK Tryz.prog G_spec_l3Records := envOK_cons hm hT ok_spec_CheckOf Tryz.func188 (by kernel_rfl) hBB fun x r hr => ⟨FU, (e_spec_l3Records FU x).trans hr⟩
theorem e_spec_l3Number (n : Nat) (x) : afun G_spec_l3Records T BB 0 n Tryz.f269 a_spec_l3Number S_spec_l3Number.ps S_spec_l3Number.rs x = p_spec_l3Number n x := by kernel_rfl
theorem ok_spec_l3Number : EnvOK Tryz.prog G_spec_l3Number := envOK_cons hm hT ok_spec_l3Records Tryz.func269 (by kernel_rfl) hBB fun x r hr => ⟨FU, (e_spec_l3Number FU x).trans hr⟩
theorem e_spec_l6Text (n : Nat) (x) : afun G_spec_l3Number T BB 0 n Tryz.f270 a_spec_l6Text S_spec_l6Text.ps S_spec_l6Text.rs x = p_spec_l6Text n x := by kernel_rfl
theorem ok_spec_l6Text : EnvOK Tryz.prog G_spec_l6Text := envOK_cons hm hT ok_spec_l3Number Tryz.func270 (by kernel_rfl) hBB fun x r hr => ⟨FU, (e_spec_l6Text FU x).trans hr⟩
theorem e_spec_PackNumber (n : Nat) (x) : afun G_spec_l6Text T BB 0 n Tryz.f226 a_spec_PackNumber S_spec_PackNumber.ps S_spec_PackNumber.rs x = p_spec_PackNumber n x := by kernel_rfl
theorem ok_spec_PackNumber : EnvOK Tryz.prog G_spec_PackNumber := envOK_cons hm hT ok_spec_l6Text Tryz.func226 (by kernel_rfl) hBB fun x r hr => ⟨FU, (e_spec_PackNumber FU x).trans hr⟩
theorem e_spec_PackText (n : Nat) (x) : afun G_spec_PackNumber T BB 0 n Tryz.f227 a_spec_PackText S_spec_PackText.ps S_spec_PackText.rs x = p_spec_PackText n x := by kernel_rfl
theorem ok_spec_PackText : EnvOK Tryz.prog G_spec_PackText := envOK_cons hm hT ok_spec_PackNumber Tryz.func227 (by kernel_rfl) hBB fun x r hr => ⟨FU, (e_spec_PackText FU x).trans hr⟩
theorem e_spec_l6Pack (n : Nat) (x) : afun G_spec_PackText T BB 0 n Tryz.f131 a_spec_l6Pack S_spec_l6Pack.ps S_spec_l6Pack.rs x = p_spec_l6Pack n x := by kernel_rfl
theorem ok_spec_l6Pack : EnvOK Tryz.prog G_spec_l6Pack := envOK_cons hm hT ok_spec_PackText Tryz.func131 (by kernel_rfl) hBB fun x r hr => ⟨FU, (e_spec_l6Pack FU x).trans hr⟩
theorem e_spec_WritesFault (n : Nat) (x) : afun G_spec_l6Pack T BB 0 n Tryz.f129 a_spec_WritesFault S_spec_WritesFault.ps S_spec_WritesFault.rs x = p_spec_WritesFault n x := by kernel_rfl
theorem ok_spec_WritesFault : EnvOK Tryz.prog G_spec_WritesFault := envOK_cons hm hT ok_spec_l6Pack Tryz.func129 (by kernel_rfl) hBB fun x r hr => ⟨FU, (e_spec_WritesFault FU x).trans hr⟩
theorem e_spec_PackWrites (n : Nat) (x) : afun G_spec_WritesFault T BB 0 n Tryz.f271 a_spec_PackWrites S_spec_PackWrites.ps S_spec_PackWrites.rs x = p_spec_PackWrites n x := by kernel_rfl
theorem ok_spec_PackWrites : EnvOK Tryz.prog G_spec_PackWrites := envOK_cons hm hT ok_spec_WritesFault Tryz.func271 (by kernel_rfl) hBB fun x r hr => ⟨FU, (e_spec_PackWrites FU x).trans hr⟩
theorem e_spec_l6Unpack (n : Nat) (x) : afun G_spec_PackWrites T BB 0 n Tryz.f189 a_spec_l6Unpack S_spec_l6Unpack.ps S_spec_l6Unpack.rs x = p_spec_l6Unpack n x := by kernel_rfl
theorem ok_spec_l6Unpack : EnvOK Tryz.prog G_spec_l6Unpack := envOK_cons hm hT ok_spec_PackWrites Tryz.func189 (by kernel_rfl) hBB fun x r hr => ⟨FU, (e_spec_l6Unpack FU x).trans hr⟩
theorem e_spec_l6Rows (n : Nat) (x) : afun G_spec_l6Unpack T BB 0 n Tryz.f133 a_spec_l6Rows S_spec_l6Rows.ps S_spec_l6Rows.rs x = p_spec_l6Rows n x := by kernel_rfl
theorem ok_spec_l6Rows : EnvOK Tryz.prog G_spec_l6Rows := envOK_cons hm hT ok_spec_l6Unpack Tryz.func133 (by kernel_rfl) hBB fun x r hr => ⟨FU, (e_spec_l6Rows FU x).trans hr⟩
theorem e_spec_l5Put (n : Nat) (x) : afun G_spec_l6Rows T BB 0 n Tryz.f134 a_spec_l5Put S_spec_l5Put.ps S_spec_l5Put.rs x = p_spec_l5Put n x := by kernel_rfl
theorem ok_spec_l5Put : EnvOK Tryz.prog G_spec_l5Put := envOK_cons hm hT ok_spec_l6Rows Tryz.func134 (by kernel_rfl) hBB fun x r hr => ⟨FU, (e_spec_l5Put FU x).trans hr⟩
theorem e_spec_l6Replay (n : Nat) (x) : afun G_spec_l5Put T BB 0 n Tryz.f86 a_spec_l6Replay S_spec_l6Replay.ps S_spec_l6Replay.rs x = p_spec_l6Replay n x := by kernel_rfl
theorem ok_spec_l6Replay : EnvOK Tryz.prog G_spec_l6Replay := envOK_cons hm hT ok_spec_l5Put Tryz.func86 (by kernel_rfl) hBB fun x r hr => ⟨FU, (e_spec_l6Replay FU x).trans hr⟩
theorem e_spec_l6Same (n : Nat) (x) : afun G_spec_l6Replay T BB 0 n Tryz.f87 a_spec_l6Same S_spec_l6Same.ps S_spec_l6Same.rs x = p_spec_l6Same n x := by kernel_rfl
theorem ok_spec_l6Same : EnvOK Tryz.prog G_spec_l6Same := envOK_cons hm hT ok_spec_l6Replay Tryz.func87 (by kernel_rfl) hBB fun x r hr => ⟨FU, (e_spec_l6Same FU x).trans hr⟩
theorem e_spec_EngineFault (n : Nat) (x) : afun G_spec_l6Same T BB 0 n Tryz.f23 a_spec_EngineFault S_spec_EngineFault.ps S_spec_EngineFault.rs x = p_spec_EngineFault n x := by kernel_rfl
theorem ok_spec_EngineFault : EnvOK Tryz.prog G_spec_EngineFault := envOK_cons hm hT ok_spec_l6Same Tryz.func23 (by kernel_rfl) hBB fun x r hr => ⟨FU, (e_spec_EngineFault FU x).trans hr⟩
theorem e_spec_l4Copy (n : Nat) (x) : afun G_spec_EngineFault T BB 0 n Tryz.f201 a_spec_l4Copy S_spec_l4Copy.ps S_spec_l4Copy.rs x = p_spec_l4Copy n x := by kernel_rfl
theorem ok_spec_l4Copy : EnvOK Tryz.prog G_spec_l4Copy := envOK_cons hm hT ok_spec_EngineFault Tryz.func201 (by kernel_rfl) hBB fun x r hr => ⟨FU, (e_spec_l4Copy FU x).trans hr⟩
theorem e_spec_l6Copy (n : Nat) (x) : afun G_spec_l4Copy T BB 0 n Tryz.f104 a_spec_l6Copy S_spec_l6Copy.ps S_spec_l6Copy.rs x = p_spec_l6Copy n x := by kernel_rfl
theorem ok_spec_l6Copy : EnvOK Tryz.prog G_spec_l6Copy := envOK_cons hm hT ok_spec_l4Copy Tryz.func104 (by kernel_rfl) hBB fun x r hr => ⟨FU, (e_spec_l6Copy FU x).trans hr⟩
theorem e_spec_l3Short (n : Nat) (x) : afun G_spec_l6Copy T BB 0 n Tryz.f285 a_spec_l3Short S_spec_l3Short.ps S_spec_l3Short.rs x = p_spec_l3Short n x := by kernel_rfl
theorem ok_spec_l3Short : EnvOK Tryz.prog G_spec_l3Short := envOK_cons hm hT ok_spec_l6Copy Tryz.func285 (by kernel_rfl) hBB fun x r hr => ⟨FU, (e_spec_l3Short FU x).trans hr⟩
theorem e_spec_l3Frame (n : Nat) (x) : afun G_spec_l3Short T BB 0 n Tryz.f225 a_spec_l3Frame S_spec_l3Frame.ps S_spec_l3Frame.rs x = p_spec_l3Frame n x := by kernel_rfl
theorem ok_spec_l3Frame : EnvOK Tryz.prog G_spec_l3Frame := envOK_cons hm hT ok_spec_l3Short Tryz.func225 (by kernel_rfl) hBB fun x r hr => ⟨FU, (e_spec_l3Frame FU x).trans hr⟩
theorem e_spec_l4Append (n : Nat) (x) : afun G_spec_l3Frame T BB 0 n Tryz.f130 a_spec_l4Append S_spec_l4Append.ps S_spec_l4Append.rs x = p_spec_l4Append n x := by kernel_rfl
theorem ok_spec_l4Append : EnvOK Tryz.prog G_spec_l4Append := envOK_cons hm hT ok_spec_l3Frame Tryz.func130 (by kernel_rfl) hBB fun x r hr => ⟨FU, (e_spec_l4Append FU x).trans hr⟩
theorem e_spec_WriteBatch (n : Nat) (x) : afun G_spec_l4Append T BB 0 n Tryz.f48 a_spec_WriteBatch S_spec_WriteBatch.ps S_spec_WriteBatch.rs x = p_spec_WriteBatch n x := by kernel_rfl
theorem ok_spec_WriteBatch : EnvOK Tryz.prog G_spec_WriteBatch := envOK_cons hm hT ok_spec_l4Append Tryz.func48 (by kernel_rfl) hBB fun x r hr => ⟨FU, (e_spec_WriteBatch FU x).trans hr⟩
theorem e_impl_LogFault (n : Nat) (x) : afun G_spec_WriteBatch T BB 0 n Tryz.f92 a_impl_LogFault S_impl_LogFault.ps S_impl_LogFault.rs x = p_impl_LogFault n x := by kernel_rfl
theorem ok_impl_LogFault : EnvOK Tryz.prog G_impl_LogFault := envOK_cons hm hT ok_spec_WriteBatch Tryz.func92 (by kernel_rfl) hBB fun x r hr => ⟨FU, (e_impl_LogFault FU x).trans hr⟩
theorem e_impl_within (n : Nat) (x) : afun G_impl_LogFault T BB 0 n Tryz.f195 a_impl_within S_impl_within.ps S_impl_within.rs x = p_impl_within n x := by kernel_rfl
theorem ok_impl_within : EnvOK Tryz.prog G_impl_within := envOK_cons hm hT ok_impl_LogFault Tryz.func195 (by kernel_rfl) hBB fun x r hr => ⟨FU, (e_impl_within FU x).trans hr⟩
theorem e_impl_isKey (n : Nat) (x) : afun G_impl_within T BB 0 n Tryz.f272 a_impl_isKey S_impl_isKey.ps S_impl_isKey.rs x = p_impl_isKey n x := by kernel_rfl
theorem ok_impl_isKey : EnvOK Tryz.prog G_impl_isKey := envOK_cons hm hT ok_impl_within Tryz.func272 (by kernel_rfl) hBB fun x r hr => ⟨FU, (e_impl_isKey FU x).trans hr⟩
theorem e_impl_isVersion (n : Nat) (x) : afun G_impl_isKey T BB 0 n Tryz.f96 a_impl_isVersion S_impl_isVersion.ps S_impl_isVersion.rs x = p_impl_isVersion n x := by kernel_rfl
theorem ok_impl_isVersion : EnvOK Tryz.prog G_impl_isVersion := envOK_cons hm hT ok_impl_isKey Tryz.func96 (by kernel_rfl) hBB fun x r hr => ⟨FU, (e_impl_isVersion FU x).trans hr⟩
theorem e_impl_RowFault (n : Nat) (x) : afun G_impl_isVersion T BB 0 n Tryz.f192 a_impl_RowFault S_impl_RowFault.ps S_impl_RowFault.rs x = p_impl_RowFault n x := by kernel_rfl
theorem ok_impl_RowFault : EnvOK Tryz.prog G_impl_RowFault := envOK_cons hm hT ok_impl_isVersion Tryz.func192 (by kernel_rfl) hBB fun x r hr => ⟨FU, (e_impl_RowFault FU x).trans hr⟩
def ren_internal_bytealg_CompareString : Go.Shelf.Ren := ⟨fun n => if n = 213 then 322 else 343, fun n => if n = 3 then 3 else 9, fun n => n⟩
theorem lays_internal_bytealg_CompareString : Go.Proofs.Lays.n213 Tryz.prog ren_internal_bytealg_CompareString where
  mixed := by kernel_rfl
  f213 := by kernel_rfl
  f265 := by kernel_rfl
  t3 := by kernel_rfl
  a3 := fun _ => by kernel_rfl
  z3 := fun _ => by kernel_rfl
  v3 := fun _ => by kernel_rfl
  t9 := by kernel_rfl
  a9 := fun _ => by kernel_rfl
  z9 := fun _ => by kernel_rfl
  v9 := fun _ => by kernel_rfl
theorem ok_internal_bytealg_CompareString : EnvOK Tryz.prog G_internal_bytealg_CompareString := envOK_sound ok_impl_RowFault ⟨_, Tryz.func322, by kernel_rfl, by kernel_rfl⟩ (sound_cmp fun a b w => Any.bytealg_CompareString lays_internal_bytealg_CompareString a b w)
theorem e_strings_Compare (n : Nat) (x) : afun G_internal_bytealg_CompareString T BB 0 n Tryz.f274 a_strings_Compare S_strings_Compare.ps S_strings_Compare.rs x = p_strings_Compare n x := by kernel_rfl
theorem ok_strings_Compare : EnvOK Tryz.prog G_strings_Compare := envOK_cons hm hT ok_internal_bytealg_CompareString Tryz.func274 (by kernel_rfl) hBB fun x r hr => ⟨FU, (e_strings_Compare FU x).trans hr⟩
theorem e_cmp_isNaN_int64 (n : Nat) (x) : afun G_strings_Compare T BB 0 n Tryz.f316 a_cmp_isNaN_int64 S_cmp_isNaN_int64.ps S_cmp_isNaN_int64.rs x = p_cmp_isNaN_int64 n x := by kernel_rfl
theorem ok_cmp_isNaN_int64 : EnvOK Tryz.prog G_cmp_isNaN_int64 := envOK_cons hm hT ok_strings_Compare Tryz.func316 (by kernel_rfl) hBB fun x r hr => ⟨FU, (e_cmp_isNaN_int64 FU x).trans hr⟩
theorem e_cmp_Compare_int64 (n : Nat) (x) : afun G_cmp_isNaN_int64 T BB 0 n Tryz.f261 a_cmp_Compare_int64 S_cmp_Compare_int64.ps S_cmp_Compare_int64.rs x = p_cmp_Compare_int64 n x := by kernel_rfl
theorem ok_cmp_Compare_int64 : EnvOK Tryz.prog G_cmp_Compare_int64 := envOK_cons hm hT ok_cmp_isNaN_int64 Tryz.func261 (by kernel_rfl) hBB fun x r hr => ⟨FU, (e_cmp_Compare_int64 FU x).trans hr⟩
theorem e_cmp_Or_int (n : Nat) (x) : afun G_cmp_Compare_int64 T BB 0 n Tryz.f273 a_cmp_Or_int S_cmp_Or_int.ps S_cmp_Or_int.rs x = p_cmp_Or_int n x := by kernel_rfl
theorem ok_cmp_Or_int : EnvOK Tryz.prog G_cmp_Or_int := envOK_cons hm hT ok_cmp_Compare_int64 Tryz.func273 (by kernel_rfl) hBB fun x r hr => ⟨FU, (e_cmp_Or_int FU x).trans hr⟩
theorem e_impl_compareRows (n : Nat) (x) : afun G_cmp_Or_int T BB 0 n Tryz.f193 a_impl_compareRows S_impl_compareRows.ps S_impl_compareRows.rs x = p_impl_compareRows n x := by kernel_rfl
theorem ok_impl_compareRows : EnvOK Tryz.prog G_impl_compareRows := envOK_cons hm hT ok_cmp_Or_int Tryz.func193 (by kernel_rfl) hBB fun x r hr => ⟨FU, (e_impl_compareRows FU x).trans hr⟩
theorem e_impl_TableFault (n : Nat) (x) : afun G_impl_compareRows T BB 0 n Tryz.f93 a_impl_TableFault S_impl_TableFault.ps S_impl_TableFault.rs x = p_impl_TableFault n x := by kernel_rfl
theorem ok_impl_TableFault : EnvOK Tryz.prog G_impl_TableFault := envOK_cons hm hT ok_impl_compareRows Tryz.func93 (by kernel_rfl) hBB fun x r hr => ⟨FU, (e_impl_TableFault FU x).trans hr⟩
theorem e_impl_firstOf (n : Nat) (x) : afun G_impl_TableFault T BB 0 n Tryz.f91 a_impl_firstOf S_impl_firstOf.ps S_impl_firstOf.rs x = p_impl_firstOf n x := by kernel_rfl
theorem ok_impl_firstOf : EnvOK Tryz.prog G_impl_firstOf := envOK_cons hm hT ok_impl_TableFault Tryz.func91 (by kernel_rfl) hBB fun x r hr => ⟨FU, (e_impl_firstOf FU x).trans hr⟩
theorem e_slices_Concat_impl_Row_impl_Row (n : Nat) (x) : afun G_impl_firstOf T BB 1 n Tryz.f95 a_slices_Concat_impl_Row_impl_Row S_slices_Concat_impl_Row_impl_Row.ps S_slices_Concat_impl_Row_impl_Row.rs x = p_slices_Concat_impl_Row_impl_Row n x := by kernel_rfl
theorem ok_slices_Concat_impl_Row_impl_Row : EnvOK Tryz.prog G_slices_Concat_impl_Row_impl_Row := envOK_cons hm hT ok_impl_firstOf Tryz.func95 (by kernel_rfl) hBB fun x r hr => ⟨FU, (e_slices_Concat_impl_Row_impl_Row FU x).trans hr⟩
theorem e_impl_greatest (n : Nat) (x) : afun G_slices_Concat_impl_Row_impl_Row T BB 0 n Tryz.f94 a_impl_greatest S_impl_greatest.ps S_impl_greatest.rs x = p_impl_greatest n x := by kernel_rfl
theorem ok_impl_greatest : EnvOK Tryz.prog G_impl_greatest := envOK_cons hm hT ok_slices_Concat_impl_Row_impl_Row Tryz.func94 (by kernel_rfl) hBB fun x r hr => ⟨FU, (e_impl_greatest FU x).trans hr⟩
theorem e_slices_Concat_byte_byte (n : Nat) (x) : afun G_impl_greatest T BB 1 n Tryz.f120 a_slices_Concat_byte_byte S_slices_Concat_byte_byte.ps S_slices_Concat_byte_byte.rs x = p_slices_Concat_byte_byte n x := by kernel_rfl
theorem ok_slices_Concat_byte_byte : EnvOK Tryz.prog G_slices_Concat_byte_byte := envOK_cons hm hT ok_impl_greatest Tryz.func120 (by kernel_rfl) hBB fun x r hr => ⟨FU, (e_slices_Concat_byte_byte FU x).trans hr⟩
theorem e_impl_CheckOf (n : Nat) (x) : afun G_slices_Concat_byte_byte T BB 0 n Tryz.f282 a_impl_CheckOf S_impl_CheckOf.ps S_impl_CheckOf.rs x = p_impl_CheckOf n x := by kernel_rfl
theorem ok_impl_CheckOf : EnvOK Tryz.prog G_impl_CheckOf := envOK_cons hm hT ok_slices_Concat_byte_byte Tryz.func282 (by kernel_rfl) hBB fun x r hr => ⟨FU, (e_impl_CheckOf FU x).trans hr⟩
theorem e_impl_pair (n : Nat) (x) : afun G_impl_CheckOf T BB 0 n Tryz.f281 a_impl_pair S_impl_pair.ps S_impl_pair.rs x = p_impl_pair n x := by kernel_rfl
theorem ok_impl_pair : EnvOK Tryz.prog G_impl_pair := envOK_cons hm hT ok_impl_CheckOf Tryz.func281 (by kernel_rfl) hBB fun x r hr => ⟨FU, (e_impl_pair FU x).trans hr⟩
theorem e_bytes_Equal (n : Nat) (x) : afun G_impl_pair T BB 0 n Tryz.f220 a_bytes_Equal S_bytes_Equal.ps S_bytes_Equal.rs x = p_bytes_Equal n x := by kernel_rfl
theorem ok_bytes_Equal : EnvOK Tryz.prog G_bytes_Equal := envOK_cons hm hT ok_impl_pair Tryz.func220 (by kernel_rfl) hBB fun x r hr => ⟨FU, (e_bytes_Equal FU x).trans hr⟩
theorem e_impl_unframe (n : Nat) (x) : afun G_bytes_Equal T BB 0 n Tryz.f214 a_impl_unframe S_impl_unframe.ps S_impl_unframe.rs x = p_impl_unframe n x := by kernel_rfl
theorem ok_impl_unframe : EnvOK Tryz.prog G_impl_unframe := envOK_cons hm hT ok_bytes_Equal Tryz.func214 (by kernel_rfl) hBB fun x r hr => ⟨FU, (e_impl_unframe FU x).trans hr⟩
theorem e_bytes_Clone (n : Nat) (x) : afun G_impl_unframe T BB 0 n Tryz.f215 a_bytes_Clone S_bytes_Clone.ps S_bytes_Clone.rs x = p_bytes_Clone n x := by kernel_rfl
theorem ok_bytes_Clone : EnvOK Tryz.prog G_bytes_Clone := envOK_cons hm hT ok_impl_unframe Tryz.func215 (by kernel_rfl) hBB fun x r hr => ⟨FU, (e_bytes_Clone FU x).trans hr⟩
theorem e_impl_size_byte (n : Nat) (x) : afun G_bytes_Clone T BB 0 n Tryz.f196 a_impl_size_byte S_impl_size_byte.ps S_impl_size_byte.rs x = p_impl_size_byte n x := by kernel_rfl
theorem ok_impl_size_byte : EnvOK Tryz.prog G_impl_size_byte := envOK_cons hm hT ok_bytes_Clone Tryz.func196 (by kernel_rfl) hBB fun x r hr => ⟨FU, (e_impl_size_byte FU x).trans hr⟩
theorem e_impl_UnframeAll (n : Nat) (x) : afun G_impl_size_byte T BB 0 n Tryz.f119 a_impl_UnframeAll S_impl_UnframeAll.ps S_impl_UnframeAll.rs x = p_impl_UnframeAll n x := by kernel_rfl
theorem ok_impl_UnframeAll : EnvOK Tryz.prog G_impl_UnframeAll := envOK_cons hm hT ok_impl_size_byte Tryz.func119 (by kernel_rfl) hBB fun x r hr => ⟨FU, (e_impl_UnframeAll FU x).trans hr⟩
theorem e_impl_ReadLog (n : Nat) (x) : afun G_impl_UnframeAll T BB 0 n Tryz.f37 a_impl_ReadLog S_impl_ReadLog.ps S_impl_ReadLog.rs x = p_impl_ReadLog n x := by kernel_rfl
theorem ok_impl_ReadLog : EnvOK Tryz.prog G_impl_ReadLog := envOK_cons hm hT ok_impl_UnframeAll Tryz.func37 (by kernel_rfl) hBB fun x r hr => ⟨FU, (e_impl_ReadLog FU x).trans hr⟩
theorem e_impl_UnpackNumber (n : Nat) (x) : afun G_impl_ReadLog T BB 0 n Tryz.f217 a_impl_UnpackNumber S_impl_UnpackNumber.ps S_impl_UnpackNumber.rs x = p_impl_UnpackNumber n x := by kernel_rfl
theorem ok_impl_UnpackNumber : EnvOK Tryz.prog G_impl_UnpackNumber := envOK_cons hm hT ok_impl_ReadLog Tryz.func217 (by kernel_rfl) hBB fun x r hr => ⟨FU, (e_impl_UnpackNumber FU x).trans hr⟩
theorem e_impl_takeText (n : Nat) (x) : afun G_impl_UnpackNumber T BB 0 n Tryz.f283 a_impl_takeText S_impl_takeText.ps S_impl_takeText.rs x = p_impl_takeText n x := by kernel_rfl
theorem ok_impl_takeText : EnvOK Tryz.prog G_impl_takeText := envOK_cons hm hT ok_impl_UnpackNumber Tryz.func283 (by kernel_rfl) hBB fun x r hr => ⟨FU, (e_impl_takeText FU x).trans hr⟩
theorem e_impl_takeWrite (n : Nat) (x) : afun G_impl_takeText T BB 0 n Tryz.f218 a_impl_takeWrite S_impl_takeWrite.ps S_impl_takeWrite.rs x = p_impl_takeWrite n x := by kernel_rfl
theorem ok_impl_takeWrite : EnvOK Tryz.prog G_impl_takeWrite := envOK_cons hm hT ok_impl_takeText Tryz.func218 (by kernel_rfl) hBB fun x r hr => ⟨FU, (e_impl_takeWrite FU x).trans hr⟩
theorem e_impl_size_impl_Write (n : Nat) (x) : afun G_impl_takeWrite T BB 0 n Tryz.f286 a_impl_size_impl_Write S_impl_size_impl_Write.ps S_impl_size_impl_Write.rs x = p_impl_size_impl_Write n x := by kernel_rfl
theorem ok_impl_size_impl_Write : EnvOK Tryz.prog G_impl_size_impl_Write := envOK_cons hm hT ok_impl_takeWrite Tryz.func286 (by kernel_rfl) hBB fun x r hr => ⟨FU, (e_impl_size_impl_Write FU x).trans hr⟩
theorem e_impl_Write_row (n : Nat) (x) : afun G_impl_size_impl_Write T BB 0 n Tryz.f221 a_impl_Write_row S_impl_Write_row.ps S_impl_Write_row.rs x = p_impl_Write_row n x := by kernel_rfl
theorem ok_impl_Write_row : EnvOK Tryz.prog G_impl_Write_row := envOK_cons hm hT ok_impl_size_impl_Write Tryz.func221 (by kernel_rfl) hBB fun x r hr => ⟨FU, (e_impl_Write_row FU x).trans hr⟩
theorem e_impl_PackNumber (n : Nat) (x) : afun G_impl_Write_row T BB 0 n Tryz.f290 a_impl_PackNumber S_impl_PackNumber.ps S_impl_PackNumber.rs x = p_impl_PackNumber n x := by kernel_rfl
theorem ok_impl_PackNumber : EnvOK Tryz.prog G_impl_PackNumber := envOK_cons hm hT ok_impl_Write_row Tryz.func290 (by kernel_rfl) hBB fun x r hr => ⟨FU, (e_impl_PackNumber FU x).trans hr⟩
theorem e_impl_PackText (n : Nat) (x) : afun G_impl_PackNumber T BB 0 n Tryz.f291 a_impl_PackText S_impl_PackText.ps S_impl_PackText.rs x = p_impl_PackText n x := by kernel_rfl
theorem ok_impl_PackText : EnvOK Tryz.prog G_impl_PackText := envOK_cons hm hT ok_impl_PackNumber Tryz.func291 (by kernel_rfl) hBB fun x r hr => ⟨FU, (e_impl_PackText FU x).trans hr⟩
theorem e_impl_packWrites (n : Nat) (x) : afun G_impl_PackText T BB 0 n Tryz.f230 a_impl_packWrites S_impl_packWrites.ps S_impl_packWrites.rs x = p_impl_packWrites n x := by kernel_rfl
theorem ok_impl_packWrites : EnvOK Tryz.prog G_impl_packWrites := envOK_cons hm hT ok_impl_PackText Tryz.func230 (by kernel_rfl) hBB fun x r hr => ⟨FU, (e_impl_packWrites FU x).trans hr⟩
theorem e_impl_WritesFault (n : Nat) (x) : afun G_impl_packWrites T BB 3 n Tryz.f228 a_impl_WritesFault S_impl_WritesFault.ps S_impl_WritesFault.rs x = p_impl_WritesFault n x := by kernel_rfl
theorem ok_impl_WritesFault : EnvOK Tryz.prog G_impl_WritesFault := envOK_cons hm hT ok_impl_packWrites Tryz.func228 (by kernel_rfl) hBB fun x r hr => ⟨FU, (e_impl_WritesFault FU x).trans hr⟩
theorem e_impl_PackWrites (n : Nat) (x) : afun G_impl_WritesFault T BB 0 n Tryz.f219 a_impl_PackWrites S_impl_PackWrites.ps S_impl_PackWrites.rs x = p_impl_PackWrites n x := by kernel_rfl
theorem ok_impl_PackWrites : EnvOK Tryz.prog G_impl_PackWrites := envOK_cons hm hT ok_impl_WritesFault Tryz.func219 (by kernel_rfl) hBB fun x r hr => ⟨FU, (e_impl_PackWrites FU x).trans hr⟩
theorem e_impl_unpackWrites (n : Nat) (x) : afun G_impl_PackWrites T BB 0 n Tryz.f121 a_impl_unpackWrites S_impl_unpackWrites.ps S_impl_unpackWrites.rs x = p_impl_unpackWrites n x := by kernel_rfl
theorem ok_impl_unpackWrites : EnvOK Tryz.prog G_impl_unpackWrites := envOK_cons hm hT ok_impl_PackWrites Tryz.func121 (by kernel_rfl) hBB fun x r hr => ⟨FU, (e_impl_unpackWrites FU x).trans hr⟩
theorem e_impl_rowsOf (n : Nat) (x) : afun G_impl_unpackWrites T BB 0 n Tryz.f122 a_impl_rowsOf S_impl_rowsOf.ps S_impl_rowsOf.rs x = p_impl_rowsOf n x := by kernel_rfl
theorem ok_impl_rowsOf : EnvOK Tryz.prog G_impl_rowsOf := envOK_cons hm hT ok_impl_unpackWrites Tryz.func122 (by kernel_rfl) hBB fun x r hr => ⟨FU, (e_impl_rowsOf FU x).trans hr⟩
def ren_slices_SortFunc_impl_Row_impl_Row : Go.Shelf.Ren := ⟨fun n => if n = 6 then 197 else if n = 15 then 276 else if n = 14 then 275 else if n = 28 then 331 else if n = 29 then 332 else if n = 20 then 323 else if n = 21 then 324 else if n = 22 then 325 else if n = 23 then 326 else if n = 24 then 327 else if n = 25 then 328 else if n = 26 then 329 else if n = 27 then 330 else if n = 46 then 344 else if n = 47 then 345 else if n = 48 then 346 else if n = 49 then 347 else if n = 50 then 348 else if n = 57 then 361 else n, fun n => if n = 22 then 53 else if n = 24 then 78 else if n = 25 then 224 else if n = 3 then 3 else if n = 39 then 294 else if n = 0 then 0 else if n = 53 then 330 else if n = 55 then 297 else if n = 4 then 4 else if n = 46 then 324 else if n = 45 then 323 else if n = 50 then 204 else if n = 5 then 5 else if n = 9 then 9 else if n = 66 then 338 else if n = 70 then 342 else if n = 76 then 351 else if n = 77 then 352 else n, fun n => n⟩
theorem lays_slices_SortFunc_impl_Row_impl_Row : Go.Proofs.SlLaysF0.n6 Tryz.prog ren_slices_SortFunc_impl_Row_impl_Row where
  mixed := by kernel_rfl
  f6 := ⟨"slices.SortFunc[[]loop.example/g00203/impl.Row,loop.example/g00203/impl.Row]", by decide, Tryz.func197.trans (congrArg some (by kernel_rfl))⟩
  f14 := ⟨"slices.pdqsortCmpFunc[loop.example/g00203/impl.Row]", by decide, Tryz.func275.trans (congrArg some (by kernel_rfl))⟩
  f15 := Tryz.func276.trans (congrArg some (by kernel_rfl))
  f20 := ⟨"slices.insertionSortCmpFunc[loop.example/g00203/impl.Row]", by decide, Tryz.func323.trans (congrArg some (by kernel_rfl))⟩
  f21 := ⟨"slices.heapSortCmpFunc[loop.example/g00203/impl.Row]", by decide, Tryz.func324.trans (congrArg some (by kernel_rfl))⟩
  f22 := ⟨"slices.breakPatternsCmpFunc[loop.example/g00203/impl.Row]", by decide, Tryz.func325.trans (congrArg some (by kernel_rfl))⟩
  f23 := ⟨"slices.choosePivotCmpFunc[loop.example/g00203/impl.Row]", by decide, Tryz.func326.trans (congrArg some (by kernel_rfl))⟩
  f24 := ⟨"slices.reverseRangeCmpFunc[loop.example/g00203/impl.Row]", by decide, Tryz.func327.trans (congrArg some (by kernel_rfl))⟩
  f25 := ⟨"slices.partialInsertionSortCmpFunc[loop.example/g00203/impl.Row]", by decide, Tryz.func328.trans (congrArg some (by kernel_rfl))⟩
  f26 := ⟨"slices.partitionEqualCmpFunc[loop.example/g00203/impl.Row]", by decide, Tryz.func329.trans (congrArg some (by kernel_rfl))⟩
  f27 := ⟨"slices.partitionCmpFunc[loop.example/g00203/impl.Row]", by decide, Tryz.func330.trans (congrArg some (by kernel_rfl))⟩
  f28 := Tryz.func331.trans (congrArg some (by kernel_rfl))
  f29 := Tryz.func332.trans (congrArg some (by kernel_rfl))
  f46 := ⟨"slices.siftDownCmpFunc[loop.example/g00203/impl.Row]", by decide, Tryz.func344.trans (congrArg some (by kernel_rfl))⟩
  f47 := Tryz.func345.trans (congrArg some (by kernel_rfl))
  f48 := Tryz.func346.trans (congrArg some (by kernel_rfl))
  f49 := ⟨"slices.medianAdjacentCmpFunc[loop.example/g00203/impl.Row]", by decide, Tryz.func347.trans (congrArg some (by kernel_rfl))⟩
  f50 := ⟨"slices.medianCmpFunc[loop.example/g00203/impl.Row]", by decide, Tryz.func348.trans (congrArg some (by kernel_rfl))⟩
  f57 := ⟨"slices.order2CmpFunc[loop.example/g00203/impl.Row]", by decide, Tryz.func361.trans (congrArg some (by kernel_rfl))⟩
  t0 := Tryz.underlying0
  a0 := Tryz.isAgg0
  z0 := Tryz.sizeOf0
  v0 := Tryz.zeroValue0
  t3 := Tryz.underlying3
  a3 := Tryz.isAgg3
  z3 := Tryz.sizeOf3
  v3 := Tryz.zeroValue3
  t4 := Tryz.underlying4
  a4 := Tryz.isAgg4
  z4 := Tryz.sizeOf4
  v4 := Tryz.zeroValue4
  t5 := Tryz.underlying5
  a5 := Tryz.isAgg5
  z5 := Tryz.sizeOf5
  v5 := Tryz.zeroValue5
  t9 := Tryz.underlying9
  a9 := Tryz.isAgg9
  z9 := Tryz.sizeOf9
  v9 := Tryz.zeroValue9
  t22 := Tryz.underlying53
  a22 := Tryz.isAgg53
  z22 := Tryz.sizeOf53
  v22 := Tryz.zeroValue53
  t25 := Tryz.underlying224
  a25 := Tryz.isAgg224
  z25 := Tryz.sizeOf224
  v25 := Tryz.zeroValue224
  t39 := Tryz.underlying294
  a39 := Tryz.isAgg294
  z39 := Tryz.sizeOf294
  v39 := Tryz.zeroValue294
  t45 := Tryz.underlying323
  a45 := Tryz.isAgg323
  z45 := Tryz.sizeOf323
  v45 := Tryz.zeroValue323
  t46 := Tryz.underlying324
  a46 := Tryz.isAgg324
  z46 := Tryz.sizeOf324
  v46 := Tryz.zeroValue324
  t50 := Tryz.underlying204
  a50 := Tryz.isAgg204
  z50 := Tryz.sizeOf204
  v50 := Tryz.zeroValue204
  t53 := Tryz.underlying330
  a53 := Tryz.isAgg330
  z53 := Tryz.sizeOf330
  v53 := Tryz.zeroValue330
  t55 := Tryz.underlying297
  a55 := Tryz.isAgg297
  z55 := Tryz.sizeOf297
  v55 := Tryz.zeroValue297
  t66 := Tryz.underlying338
  a66 := Tryz.isAgg338
  z66 := Tryz.sizeOf338
  v66 := Tryz.zeroValue338
  t70 := Tryz.underlying342
  a70 := Tryz.isAgg342
  z70 := Tryz.sizeOf342
  v70 := Tryz.zeroValue342
  t76 := Tryz.underlying351
  a76 := Tryz.isAgg351
  z76 := Tryz.sizeOf351
  v76 := Tryz.zeroValue351
  t77 := Tryz.underlying352
  a77 := Tryz.isAgg352
  z77 := Tryz.sizeOf352
  v77 := Tryz.zeroValue352
set_option maxHeartbeats 1000000 in
theorem isnan_c_slices_SortFunc_impl_Row_impl_Row (w : World) (x : Int) : Calls Tryz.prog 316 #[.int .i64 x] w fun e w' => e = .returned (.bool false) ∧ w' = w := by
  go_enter Tryz.func316, Tryz.ntmps316
  go_wp2_with fail
  go_ret
  exact ⟨by simp, rfl⟩
theorem cmpi_c_slices_SortFunc_impl_Row_impl_Row (w : World) (x y : Int) : Calls Tryz.prog 261 #[.int .i64 x, .int .i64 y] w fun e w' => e = .returned (.int .i64 (cmpI x y)) ∧ w' = w := by
  unfold cmpI
  by_cases h1 : x < y
  · go_enter Tryz.func261, Tryz.ntmps261
    go_wp2_with (go_at_call 316; refine (isnan_c_slices_SortFunc_impl_Row_impl_Row _ _).mono ?_; rintro e w' ⟨rfl, rfl⟩)
    all_goals go_ret
    all_goals simp [h1]
  · by_cases h2 : x > y
    · go_enter Tryz.func261, Tryz.ntmps261
      go_wp2_with (go_at_call 316; refine (isnan_c_slices_SortFunc_impl_Row_impl_Row _ _).mono ?_; rintro e w' ⟨rfl, rfl⟩)
      all_goals go_ret
      all_goals simp [h1, h2]
    · go_enter Tryz.func261, Tryz.ntmps261
      go_wp2_with (go_at_call 316; refine (isnan_c_slices_SortFunc_impl_Row_impl_Row _ _).mono ?_; rintro e w' ⟨rfl, rfl⟩)
      all_goals go_ret
      all_goals simp [h1, h2]
def ren_x_slices_SortFunc_impl_Row_impl_Row : Go.Shelf.Ren := ⟨fun n => if n = 213 then 322 else 343, fun n => if n = 3 then 3 else 9, fun n => n⟩
theorem lays_x_slices_SortFunc_impl_Row_impl_Row : Go.Proofs.Lays.n213 Tryz.prog ren_x_slices_SortFunc_impl_Row_impl_Row where
  mixed := by kernel_rfl
  f213 := by kernel_rfl
  f265 := by kernel_rfl
  t3 := by kernel_rfl
  a3 := fun _ => by kernel_rfl
  z3 := fun _ => by kernel_rfl
  v3 := fun _ => by kernel_rfl
  t9 := by kernel_rfl
  a9 := fun _ => by kernel_rfl
  z9 := fun _ => by kernel_rfl
  v9 := fun _ => by kernel_rfl
theorem cstr_c_slices_SortFunc_impl_Row_impl_Row (w : World) (a b : ByteArray) : Calls Tryz.prog 322 #[.string a, .string b] w fun e w' => e = .returned (.int .i64 (cmpB a b)) ∧ w' = w := Any.bytealg_CompareString lays_x_slices_SortFunc_impl_Row_impl_Row a b w
set_option maxHeartbeats 1000000 in
theorem scmp_c_slices_SortFunc_impl_Row_impl_Row (w : World) (a b : ByteArray) : Calls Tryz.prog 274 #[.string a, .string b] w fun e w' => e = .returned (.int .i64 (cmpB a b)) ∧ w' = w := by
  go_enter Tryz.func274, Tryz.ntmps274
  go_wp2_with (go_at_call 322; refine (cstr_c_slices_SortFunc_impl_Row_impl_Row _ _ _).mono ?_; rintro e w' ⟨rfl, rfl⟩)
  all_goals go_ret
  all_goals simp
theorem or_c_slices_SortFunc_impl_Row_impl_Row (w : World) (b : Nat) (x y : Int) (h0 : w.cell? ⟨b, 0, none⟩ = some (.int .i64 x)) (h1 : w.cell? ⟨b, 1, none⟩ = some (.int .i64 y)) : Calls Tryz.prog 273 #[.slice (some ⟨b, 0, none⟩) 2 2] w fun e w' => e = .returned (.int .i64 (orI x y)) ∧ w' = w := by
  unfold orI
  by_cases hx : x = 0
  · by_cases hy : y = 0
    · subst hx hy
      go_enter Tryz.func273, Tryz.ntmps273
      go_wp2_with fail
      refine wp_loop_rounds 3 ?_
      rw [rounds_succ]
      go_wp2_with fail
      rw [rounds_succ]
      go_wp2_with fail
      rw [rounds_succ]
      go_wp2_with fail
      go_ret
      simp
    · subst hx
      go_enter Tryz.func273, Tryz.ntmps273
      go_wp2_with fail
      refine wp_loop_rounds 3 ?_
      rw [rounds_succ]
      go_wp2_with fail
      rw [rounds_succ]
      go_wp2_with fail
      go_ret
      simp
  · go_enter Tryz.func273, Tryz.ntmps273
    go_wp2_with fail
    refine wp_loop_rounds 3 ?_
    rw [rounds_succ]
    go_wp2_with fail
    go_ret
    simp [hx]
set_option maxHeartbeats 600000 in
theorem row_c_slices_SortFunc_impl_Row_impl_Row (W : World) (x y : ByteArray × (Int × (ByteArray × Bool))) : Calls Tryz.prog 193 #[.agg (encRow x).toArray, .agg (encRow y).toArray] W fun e w' => e = .returned (.int .i64 (cfRow x y)) ∧ ∃ q os', w' = Go.Sort.grow (W.drewN q) os' := by
  unfold encRow cfRow
  go_enter Tryz.func193, Tryz.ntmps193
  go_wp2_with fail
  obtain ⟨o1, ho1⟩ : ∃ o, o = Obj.cells #[Value.string x.1, Value.int IntKind.i64 x.2.1, Value.string x.2.2.1, Value.bool x.2.2.2] 78 := ⟨_, rfl⟩
  obtain ⟨o2, ho2⟩ : ∃ o, o = Obj.cells #[Value.string y.1, Value.int IntKind.i64 y.2.1, Value.string y.2.2.1, Value.bool y.2.2.2] 78 := ⟨_, rfl⟩
  rw [← ho1, ← ho2]
  have hx0 := get2a W o1 o2
  have hy0 := get2b W o1 o2
  have hW : ∃ os, (W.alloc o1).alloc o2 = Go.Sort.grow W os := ⟨_, by rw [alloc_eq_grow, alloc_eq_grow, grow_grow]⟩
  generalize (W.alloc o1).alloc o2 = W2 at hx0 hy0 hW ⊢
  rw [ho1] at hx0
  rw [ho2] at hy0
  clear ho1 ho2 o1 o2
  have cx0 : W2.cell? ⟨W.heap.size, 0, none⟩ = some (.string x.1) := cell_of hx0 rfl
  have cx1 : W2.cell? ⟨W.heap.size, 1, none⟩ = some (.int .i64 x.2.1) := cell_of hx0 rfl
  have cy0 : W2.cell? ⟨W.heap.size + 1, 0, none⟩ = some (.string y.1) := cell_of hy0 rfl
  have cy1 : W2.cell? ⟨W.heap.size + 1, 1, none⟩ = some (.int .i64 y.2.1) := cell_of hy0 rfl
  clear hx0 hy0
  go_still_tail 10, (by kernel_rfl)
  still_call (scmp_c_slices_SortFunc_impl_Row_impl_Row _ _ _)
  repeat still_step
  still_call (cmpi_c_slices_SortFunc_impl_Row_impl_Row _ _ _)
  refine wpStill_nil ?_
  change wpList _ _ _ _ _ W2.drew
  have hD : W2.drew = W2.drewN 1 := rfl
  go_wp2_with (go_at_call 273; refine (or_c_slices_SortFunc_impl_Row_impl_Row _ _ (cmpB x.1 y.1) (cmpI y.2.1 x.2.1) (cellnew0 _ _ _ 3) (cellnew1 _ _ _ 3)).mono ?_; rintro e w' ⟨rfl, rfl⟩)
  go_ret
  obtain ⟨os, rfl⟩ := hW
  refine ⟨rfl, 1, os ++ #[Obj.cells #[.int .i64 (cmpB x.1 y.1), .int .i64 (cmpI y.2.1 x.2.1)] 3], ?_⟩
  rw [alloc_eq_grow]
  exact grow_grow (W.drewN 1) os _
set_option maxHeartbeats 1000000 in
theorem closure_slices_SortFunc_impl_Row_impl_Row (W : World) (x y) (hx : okRow x = true) (hy : okRow y = true) : Calls Tryz.prog 193 #[.agg (encRow x).toArray, .agg (encRow y).toArray] W fun e w' => e = .returned (.int .i64 (cfRow x y)) ∧ ∃ q os', w' = Go.Sort.grow (W.drewN q) os' := by
  exact row_c_slices_SortFunc_impl_Row_impl_Row W x y
theorem sound_slices_SortFunc_impl_Row_impl_Row : Sound Tryz.prog 197 S_slices_SortFunc_impl_Row_impl_Row := sound_sort lays_slices_SortFunc_impl_Row_impl_Row rfl hencRow (by decide) (fun _ => rfl) (fun x v hv => by simp [encRow] at hv; rcases hv with rfl | rfl | rfl | rfl <;> rfl) Tryz.isAgg78 Tryz.sizeOf78 swoRow (enters_of Tryz.func193 (by kernel_rfl) rfl) closure_slices_SortFunc_impl_Row_impl_Row
theorem ok_slices_SortFunc_impl_Row_impl_Row : EnvOK Tryz.prog G_slices_SortFunc_impl_Row_impl_Row := envOK_sound ok_impl_rowsOf ⟨_, Tryz.func197, by kernel_rfl, by kernel_rfl⟩ sound_slices_SortFunc_impl_Row_impl_Row
theorem e_impl_logRows (n : Nat) (x) : afun G_slices_SortFunc_impl_Row_impl_Row T BB 0 n Tryz.f97 a_impl_logRows S_impl_logRows.ps S_impl_logRows.rs x = p_impl_logRows n x := by kernel_rfl
theorem ok_impl_logRows : EnvOK Tryz.prog G_impl_logRows := envOK_cons hm hT ok_slices_SortFunc_impl_Row_impl_Row Tryz.func97 (by kernel_rfl) hBB fun x r hr => ⟨FU, (e_impl_logRows FU x).trans hr⟩
theorem e_slices_Equal_impl_Row_impl_Row (n : Nat) (x) : afun G_impl_logRows T BB 0 n Tryz.f98 a_slices_Equal_impl_Row_impl_Row S_slices_Equal_impl_Row_impl_Row.ps S_slices_Equal_impl_Row_impl_Row.rs x = p_slices_Equal_impl_Row_impl_Row n x := by kernel_rfl
theorem ok_slices_Equal_impl_Row_impl_Row : EnvOK Tryz.prog G_slices_Equal_impl_Row_impl_Row := envOK_cons hm hT ok_impl_logRows Tryz.func98 (by kernel_rfl) hBB fun x r hr => ⟨FU, (e_slices_Equal_impl_Row_impl_Row FU x).trans hr⟩
theorem e_impl_EngineFault (n : Nat) (x) : afun G_slices_Equal_impl_Row_impl_Row T BB 3 n Tryz.f25 a_impl_EngineFault S_impl_EngineFault.ps S_impl_EngineFault.rs x = p_impl_EngineFault n x := by kernel_rfl
theorem ok_impl_EngineFault : EnvOK Tryz.prog G_impl_EngineFault := envOK_cons hm hT ok_slices_Equal_impl_Row_impl_Row Tryz.func25 (by kernel_rfl) hBB fun x r hr => ⟨FU, (e_impl_EngineFault FU x).trans hr⟩
theorem e_impl_frame (n : Nat) (x) : afun G_impl_EngineFault T BB 0 n Tryz.f334 a_impl_frame S_impl_frame.ps S_impl_frame.rs x = p_impl_frame n x := by kernel_rfl
theorem ok_impl_frame : EnvOK Tryz.prog G_impl_frame := envOK_cons hm hT ok_impl_EngineFault Tryz.func334 (by kernel_rfl) hBB fun x r hr => ⟨FU, (e_impl_frame FU x).trans hr⟩
theorem e_impl_FrameRecord (n : Nat) (x) : afun G_impl_frame T BB 0 n Tryz.f289 a_impl_FrameRecord S_impl_FrameRecord.ps S_impl_FrameRecord.rs x = p_impl_FrameRecord n x := by kernel_rfl
theorem ok_impl_FrameRecord : EnvOK Tryz.prog G_impl_FrameRecord := envOK_cons hm hT ok_impl_frame Tryz.func289 (by kernel_rfl) hBB fun x r hr => ⟨FU, (e_impl_FrameRecord FU x).trans hr⟩
theorem e_impl_copyLog (n : Nat) (x) : afun G_impl_FrameRecord T BB 0 n Tryz.f202 a_impl_copyLog S_impl_copyLog.ps S_impl_copyLog.rs x = p_impl_copyLog n x := by kernel_rfl
theorem ok_impl_copyLog : EnvOK Tryz.prog G_impl_copyLog := envOK_cons hm hT ok_impl_FrameRecord Tryz.func202 (by kernel_rfl) hBB fun x r hr => ⟨FU, (e_impl_copyLog FU x).trans hr⟩
theorem e_impl_AppendLog (n : Nat) (x) : afun G_impl_copyLog T BB 0 n Tryz.f229 a_impl_AppendLog S_impl_AppendLog.ps S_impl_AppendLog.rs x = p_impl_AppendLog n x := by kernel_rfl
theorem ok_impl_AppendLog : EnvOK Tryz.prog G_impl_AppendLog := envOK_cons hm hT ok_impl_copyLog Tryz.func229 (by kernel_rfl) hBB fun x r hr => ⟨FU, (e_impl_AppendLog FU x).trans hr⟩
theorem e_impl_SyncLog (n : Nat) (x) : afun G_impl_AppendLog T BB 0 n Tryz.f231 a_impl_SyncLog S_impl_SyncLog.ps S_impl_SyncLog.rs x = p_impl_SyncLog n x := by kernel_rfl
theorem ok_impl_SyncLog : EnvOK Tryz.prog G_impl_SyncLog := envOK_cons hm hT ok_impl_AppendLog Tryz.func231 (by kernel_rfl) hBB fun x r hr => ⟨FU, (e_impl_SyncLog FU x).trans hr⟩
theorem e_slices_Clone_impl_Row_impl_Row (n : Nat) (x) : afun G_impl_SyncLog T BB 0 n Tryz.f203 a_slices_Clone_impl_Row_impl_Row S_slices_Clone_impl_Row_impl_Row.ps S_slices_Clone_impl_Row_impl_Row.rs x = p_slices_Clone_impl_Row_impl_Row n x := by kernel_rfl
theorem ok_slices_Clone_impl_Row_impl_Row : EnvOK Tryz.prog G_slices_Clone_impl_Row_impl_Row := envOK_cons hm hT ok_impl_SyncLog Tryz.func203 (by kernel_rfl) hBB fun x r hr => ⟨FU, (e_slices_Clone_impl_Row_impl_Row FU x).trans hr⟩
theorem e_impl_copyTables (n : Nat) (x) : afun G_slices_Clone_impl_Row_impl_Row T BB 0 n Tryz.f204 a_impl_copyTables S_impl_copyTables.ps S_impl_copyTables.rs x = p_impl_copyTables n x := by kernel_rfl
theorem ok_impl_copyTables : EnvOK Tryz.prog G_impl_copyTables := envOK_cons hm hT ok_slices_Clone_impl_Row_impl_Row Tryz.func204 (by kernel_rfl) hBB fun x r hr => ⟨FU, (e_impl_copyTables FU x).trans hr⟩
theorem e_impl_copyEngine (n : Nat) (x) : afun G_impl_copyTables T BB 0 n Tryz.f105 a_impl_copyEngine S_impl_copyEngine.ps S_impl_copyEngine.rs x = p_impl_copyEngine n x := by kernel_rfl
theorem ok_impl_copyEngine : EnvOK Tryz.prog G_impl_copyEngine := envOK_cons hm hT ok_impl_copyTables Tryz.func105 (by kernel_rfl) hBB fun x r hr => ⟨FU, (e_impl_copyEngine FU x).trans hr⟩
theorem e_impl_writeBatch (n : Nat) (x) : afun G_impl_copyEngine T BB 0 n Tryz.f136 a_impl_writeBatch S_impl_writeBatch.ps S_impl_writeBatch.rs x = p_impl_writeBatch n x := by kernel_rfl
theorem ok_impl_writeBatch : EnvOK Tryz.prog G_impl_writeBatch := envOK_cons hm hT ok_impl_copyEngine Tryz.func136 (by kernel_rfl) hBB fun x r hr => ⟨FU, (e_impl_writeBatch FU x).trans hr⟩
theorem e_impl_WriteBatch (n : Nat) (x) : afun G_impl_writeBatch T BB 0 n Tryz.f50 a_impl_WriteBatch S_impl_WriteBatch.ps S_impl_WriteBatch.rs x = p_impl_WriteBatch n x := by kernel_rfl
theorem ok_impl_WriteBatch : EnvOK Tryz.prog G_impl_WriteBatch := envOK_cons hm hT ok_impl_writeBatch Tryz.func50 (by kernel_rfl) hBB fun x r hr => ⟨FU, (e_impl_WriteBatch FU x).trans hr⟩
theorem e_laws_eqByteS (n : Nat) (x) : afun G_impl_WriteBatch T BB 0 n Tryz.f199 a_laws_eqByteS S_laws_eqByteS.ps S_laws_eqByteS.rs x = p_laws_eqByteS n x := by kernel_rfl
theorem ok_laws_eqByteS : EnvOK Tryz.prog G_laws_eqByteS := envOK_cons hm hT ok_impl_WriteBatch Tryz.func199 (by kernel_rfl) hBB fun x r hr => ⟨FU, (e_laws_eqByteS FU x).trans hr⟩
theorem e_laws_eqLog (n : Nat) (x) : afun G_laws_eqByteS T BB 0 n Tryz.f101 a_laws_eqLog S_laws_eqLog.ps S_laws_eqLog.rs x = p_laws_eqLog n x := by kernel_rfl
theorem ok_laws_eqLog : EnvOK Tryz.prog G_laws_eqLog := envOK_cons hm hT ok_laws_eqByteS Tryz.func101 (by kernel_rfl) hBB fun x r hr => ⟨FU, (e_laws_eqLog FU x).trans hr⟩
theorem e_laws_eqRow (n : Nat) (x) : afun G_laws_eqLog T BB 0 n Tryz.f200 a_laws_eqRow S_laws_eqRow.ps S_laws_eqRow.rs x = p_laws_eqRow n x := by kernel_rfl
theorem ok_laws_eqRow : EnvOK Tryz.prog G_laws_eqRow := envOK_cons hm hT ok_laws_eqLog Tryz.func200 (by kernel_rfl) hBB fun x r hr => ⟨FU, (e_laws_eqRow FU x).trans hr⟩
theorem e_laws_eqRowS (n : Nat) (x) : afun G_laws_eqRow T BB 0 n Tryz.f102 a_laws_eqRowS S_laws_eqRowS.ps S_laws_eqRowS.rs x = p_laws_eqRowS n x := by kernel_rfl
theorem ok_laws_eqRowS : EnvOK Tryz.prog G_laws_eqRowS := envOK_cons hm hT ok_laws_eqRow Tryz.func102 (by kernel_rfl) hBB fun x r hr => ⟨FU, (e_laws_eqRowS FU x).trans hr⟩
theorem e_laws_eqRowSS (n : Nat) (x) : afun G_laws_eqRowS T BB 0 n Tryz.f103 a_laws_eqRowSS S_laws_eqRowSS.ps S_laws_eqRowSS.rs x = p_laws_eqRowSS n x := by kernel_rfl
theorem ok_laws_eqRowSS : EnvOK Tryz.prog G_laws_eqRowSS := envOK_cons hm hT ok_laws_eqRowS Tryz.func103 (by kernel_rfl) hBB fun x r hr => ⟨FU, (e_laws_eqRowSS FU x).trans hr⟩
theorem e_laws_eqEngine (n : Nat) (x) : afun G_laws_eqRowSS T BB 0 n Tryz.f26 a_laws_eqEngine S_laws_eqEngine.ps S_laws_eqEngine.rs x = p_laws_eqEngine n x := by kernel_rfl
theorem ok_laws_eqEngine : EnvOK Tryz.prog G_laws_eqEngine := envOK_cons hm hT ok_laws_eqRowSS Tryz.func26 (by kernel_rfl) hBB fun x r hr => ⟨FU, (e_laws_eqEngine FU x).trans hr⟩
theorem e_laws_eqEngineResult (n : Nat) (x) : afun G_laws_eqEngine T BB 0 n Tryz.f29 a_laws_eqEngineResult S_laws_eqEngineResult.ps S_laws_eqEngineResult.rs x = p_laws_eqEngineResult n x := by kernel_rfl
theorem ok_laws_eqEngineResult : EnvOK Tryz.prog G_laws_eqEngineResult := envOK_cons hm hT ok_laws_eqEngine Tryz.func29 (by kernel_rfl) hBB fun x r hr => ⟨FU, (e_laws_eqEngineResult FU x).trans hr⟩
theorem e_laws_eqWrite (n : Nat) (x) : afun G_laws_eqEngineResult T BB 0 n Tryz.f137 a_laws_eqWrite S_laws_eqWrite.ps S_laws_eqWrite.rs x = p_laws_eqWrite n x := by kernel_rfl
theorem ok_laws_eqWrite : EnvOK Tryz.prog G_laws_eqWrite := envOK_cons hm hT ok_laws_eqEngineResult Tryz.func137 (by kernel_rfl) hBB fun x r hr => ⟨FU, (e_laws_eqWrite FU x).trans hr⟩
theorem e_laws_eqWriteS (n : Nat) (x) : afun G_laws_eqWrite T BB 0 n Tryz.f51 a_laws_eqWriteS S_laws_eqWriteS.ps S_laws_eqWriteS.rs x = p_laws_eqWriteS n x := by kernel_rfl
theorem ok_laws_eqWriteS : EnvOK Tryz.prog G_laws_eqWriteS := envOK_cons hm hT ok_laws_eqWrite Tryz.func51 (by kernel_rfl) hBB fun x r hr => ⟨FU, (e_laws_eqWriteS FU x).trans hr⟩
theorem e_laws_markByteS (n : Nat) (x) : afun G_laws_eqWriteS T BB 0 n Tryz.f205 a_laws_markByteS S_laws_markByteS.ps S_laws_markByteS.rs x = p_laws_markByteS n x := by kernel_rfl
theorem ok_laws_markByteS : EnvOK Tryz.prog G_laws_markByteS := envOK_cons hm hT ok_laws_eqWriteS Tryz.func205 (by kernel_rfl) hBB fun x r hr => ⟨FU, (e_laws_markByteS FU x).trans hr⟩
theorem e_laws_markText (n : Nat) (x) : afun G_laws_markByteS T BB 0 n Tryz.f138 a_laws_markText S_laws_markText.ps S_laws_markText.rs x = p_laws_markText n x := by kernel_rfl
theorem ok_laws_markText : EnvOK Tryz.prog G_laws_markText := envOK_cons hm hT ok_laws_markByteS Tryz.func138 (by kernel_rfl) hBB fun x r hr => ⟨FU, (e_laws_markText FU x).trans hr⟩
theorem e_laws_markRowS (n : Nat) (x) : afun G_laws_markText T BB 0 n Tryz.f107 a_laws_markRowS S_laws_markRowS.ps S_laws_markRowS.rs x = p_laws_markRowS n x := by kernel_rfl
theorem ok_laws_markRowS : EnvOK Tryz.prog G_laws_markRowS := envOK_cons hm hT ok_laws_markText Tryz.func107 (by kernel_rfl) hBB fun x r hr => ⟨FU, (e_laws_markRowS FU x).trans hr⟩
theorem e_laws_markRowSS (n : Nat) (x) : afun G_laws_markRowS T BB 0 n Tryz.f108 a_laws_markRowSS S_laws_markRowSS.ps S_laws_markRowSS.rs x = p_laws_markRowSS n x := by kernel_rfl
theorem ok_laws_markRowSS : EnvOK Tryz.prog G_laws_markRowSS := envOK_cons hm hT ok_laws_markRowS Tryz.func108 (by kernel_rfl) hBB fun x r hr => ⟨FU, (e_laws_markRowSS FU x).trans hr⟩
theorem e_laws_markWriteS (n : Nat) (x) : afun G_laws_markRowSS T BB 0 n Tryz.f52 a_laws_markWriteS S_laws_markWriteS.ps S_laws_markWriteS.rs x = p_laws_markWriteS n x := by kernel_rfl
theorem ok_laws_markWriteS : EnvOK Tryz.prog G_laws_markWriteS := envOK_cons hm hT ok_laws_markRowSS Tryz.func52 (by kernel_rfl) hBB fun x r hr => ⟨FU, (e_laws_markWriteS FU x).trans hr⟩
theorem e_laws_heldByteS (n : Nat) (x) : afun G_laws_markWriteS T BB 0 n Tryz.f277 a_laws_heldByteS S_laws_heldByteS.ps S_laws_heldByteS.rs x = p_laws_heldByteS n x := by kernel_rfl
theorem ok_laws_heldByteS : EnvOK Tryz.prog G_laws_heldByteS := envOK_cons hm hT ok_laws_markWriteS Tryz.func277 (by kernel_rfl) hBB fun x r hr => ⟨FU, (e_laws_heldByteS FU x).trans hr⟩
theorem e_laws_heldLog (n : Nat) (x) : afun G_laws_heldByteS T BB 0 n Tryz.f206 a_laws_heldLog S_laws_heldLog.ps S_laws_heldLog.rs x = p_laws_heldLog n x := by kernel_rfl
theorem ok_laws_heldLog : EnvOK Tryz.prog G_laws_heldLog := envOK_cons hm hT ok_laws_heldByteS Tryz.func206 (by kernel_rfl) hBB fun x r hr => ⟨FU, (e_laws_heldLog FU x).trans hr⟩
theorem e_laws_heldRowS (n : Nat) (x) : afun G_laws_heldLog T BB 0 n Tryz.f127 a_laws_heldRowS S_laws_heldRowS.ps S_laws_heldRowS.rs x = p_laws_heldRowS n x := by kernel_rfl
theorem ok_laws_heldRowS : EnvOK Tryz.prog G_laws_heldRowS := envOK_cons hm hT ok_laws_heldLog Tryz.func127 (by kernel_rfl) hBB fun x r hr => ⟨FU, (e_laws_heldRowS FU x).trans hr⟩
theorem e_laws_heldRowSS (n : Nat) (x) : afun G_laws_heldRowS T BB 0 n Tryz.f207 a_laws_heldRowSS S_laws_heldRowSS.ps S_laws_heldRowSS.rs x = p_laws_heldRowSS n x := by kernel_rfl
theorem ok_laws_heldRowSS : EnvOK Tryz.prog G_laws_heldRowSS := envOK_cons hm hT ok_laws_heldRowS Tryz.func207 (by kernel_rfl) hBB fun x r hr => ⟨FU, (e_laws_heldRowSS FU x).trans hr⟩
theorem e_laws_heldEngine (n : Nat) (x) : afun G_laws_heldRowSS T BB 0 n Tryz.f109 a_laws_heldEngine S_laws_heldEngine.ps S_laws_heldEngine.rs x = p_laws_heldEngine n x := by kernel_rfl
theorem ok_laws_heldEngine : EnvOK Tryz.prog G_laws_heldEngine := envOK_cons hm hT ok_laws_heldRowSS Tryz.func109 (by kernel_rfl) hBB fun x r hr => ⟨FU, (e_laws_heldEngine FU x).trans hr⟩
theorem e_laws_heldEngineResult (n : Nat) (x) : afun G_laws_heldEngine T BB 0 n Tryz.f32 a_laws_heldEngineResult S_laws_heldEngineResult.ps S_laws_heldEngineResult.rs x = p_laws_heldEngineResult n x := by kernel_rfl
theorem ok_laws_heldEngineResult : EnvOK Tryz.prog G_laws_heldEngineResult := envOK_cons hm hT ok_laws_heldEngine Tryz.func32 (by kernel_rfl) hBB fun x r hr => ⟨FU, (e_laws_heldEngineResult FU x).trans hr⟩
theorem e_laws_FnExactWriteBatch (n : Nat) (x) : afun G_laws_heldEngineResult T BB 3 n Tryz.f10 a_laws_FnExactWriteBatch S_laws_FnExactWriteBatch.ps S_laws_FnExactWriteBatch.rs x = p_laws_FnExactWriteBatch n x := by kernel_rfl
theorem ok_laws_FnExactWriteBatch : EnvOK Tryz.prog G_laws_FnExactWriteBatch := envOK_cons hm hT ok_laws_heldEngineResult Tryz.func10 (by kernel_rfl) hBB fun x r hr => ⟨FU, (e_laws_FnExactWriteBatch FU x).trans hr⟩
end Go.RvP
