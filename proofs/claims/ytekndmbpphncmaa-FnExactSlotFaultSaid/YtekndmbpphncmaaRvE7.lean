/- Each function of the program is as its plain function says, for FnExactSlotFault. No condition. -/
import Derived.Test.YtekndmbpphncmaaRvP7
import Derived.Test.YtekndmbpphncmaaProg
import Derived.KernelRfl
namespace Go.RvP
open Go Go.Rv Go.Proofs
set_option maxRecDepth 100000
theorem hm : Try.prog.follows .mixedOrders = true := by kernel_rfl
theorem hT : TabOK Try.prog T := tabOK_of (by kernel_rfl)
theorem e22 (n : Nat) (x) : afun [] T n Try.f22 a22 S22.ps S22.rs x = p22 n x := by kernel_rfl
theorem ok22 : EnvOK Try.prog G22 := envOK_cons hm hT envOK_nil Try.func22 (by kernel_rfl) fun x r hr => ⟨FU, (e22 FU x).trans hr⟩
theorem e30 (n : Nat) (x) : afun G22 T n Try.f30 a30 S30.ps S30.rs x = p30 n x := by kernel_rfl
theorem ok30 : EnvOK Try.prog G30 := envOK_cons hm hT ok22 Try.func30 (by kernel_rfl) fun x r hr => ⟨FU, (e30 FU x).trans hr⟩
theorem e80 (n : Nat) (x) : afun G30 T n Try.f80 a80 S80.ps S80.rs x = p80 n x := by kernel_rfl
theorem ok80 : EnvOK Try.prog G80 := envOK_cons hm hT ok30 Try.func80 (by kernel_rfl) fun x r hr => ⟨FU, (e80 FU x).trans hr⟩
theorem e23 (n : Nat) (x) : afun G80 T n Try.f23 a23 S23.ps S23.rs x = p23 n x := by kernel_rfl
theorem ok23 : EnvOK Try.prog G23 := envOK_cons hm hT ok80 Try.func23 (by kernel_rfl) fun x r hr => ⟨FU, (e23 FU x).trans hr⟩
theorem e32 (n : Nat) (x) : afun G23 T n Try.f32 a32 S32.ps S32.rs x = p32 n x := by kernel_rfl
theorem ok32 : EnvOK Try.prog G32 := envOK_cons hm hT ok23 Try.func32 (by kernel_rfl) fun x r hr => ⟨FU, (e32 FU x).trans hr⟩
theorem e63 (n : Nat) (x) : afun G32 T n Try.f63 a63 S63.ps S63.rs x = p63 n x := by kernel_rfl
theorem ok63 : EnvOK Try.prog G63 := envOK_cons hm hT ok32 Try.func63 (by kernel_rfl) fun x r hr => ⟨FU, (e63 FU x).trans hr⟩
theorem e82 (n : Nat) (x) : afun G63 T n Try.f82 a82 S82.ps S82.rs x = p82 n x := by kernel_rfl
theorem ok82 : EnvOK Try.prog G82 := envOK_cons hm hT ok63 Try.func82 (by kernel_rfl) fun x r hr => ⟨FU, (e82 FU x).trans hr⟩
theorem e77 (n : Nat) (x) : afun G82 T n Try.f77 a77 S77.ps S77.rs x = p77 n x := by kernel_rfl
theorem ok77 : EnvOK Try.prog G77 := envOK_cons hm hT ok82 Try.func77 (by kernel_rfl) fun x r hr => ⟨FU, (e77 FU x).trans hr⟩
theorem e78 (n : Nat) (x) : afun G77 T n Try.f78 a78 S78.ps S78.rs x = p78 n x := by kernel_rfl
theorem ok78 : EnvOK Try.prog G78 := envOK_cons hm hT ok77 Try.func78 (by kernel_rfl) fun x r hr => ⟨FU, (e78 FU x).trans hr⟩
theorem e69 (n : Nat) (x) : afun G78 T n Try.f69 a69 S69.ps S69.rs x = p69 n x := by kernel_rfl
theorem ok69 : EnvOK Try.prog G69 := envOK_cons hm hT ok78 Try.func69 (by kernel_rfl) fun x r hr => ⟨FU, (e69 FU x).trans hr⟩
theorem e87 (n : Nat) (x) : afun G69 T n Try.f87 a87 S87.ps S87.rs x = p87 n x := by kernel_rfl
theorem ok87 : EnvOK Try.prog G87 := envOK_cons hm hT ok69 Try.func87 (by kernel_rfl) fun x r hr => ⟨FU, (e87 FU x).trans hr⟩
theorem e31 (n : Nat) (x) : afun G87 T n Try.f31 a31 S31.ps S31.rs x = p31 n x := by kernel_rfl
theorem ok31 : EnvOK Try.prog G31 := envOK_cons hm hT ok87 Try.func31 (by kernel_rfl) fun x r hr => ⟨FU, (e31 FU x).trans hr⟩
theorem e65 (n : Nat) (x) : afun G31 T n Try.f65 a65 S65.ps S65.rs x = p65 n x := by kernel_rfl
theorem ok65 : EnvOK Try.prog G65 := envOK_cons hm hT ok31 Try.func65 (by kernel_rfl) fun x r hr => ⟨FU, (e65 FU x).trans hr⟩
theorem e83 (n : Nat) (x) : afun G65 T n Try.f83 a83 S83.ps S83.rs x = p83 n x := by kernel_rfl
theorem ok83 : EnvOK Try.prog G83 := envOK_cons hm hT ok65 Try.func83 (by kernel_rfl) fun x r hr => ⟨FU, (e83 FU x).trans hr⟩
theorem e84 (n : Nat) (x) : afun G83 T n Try.f84 a84 S84.ps S84.rs x = p84 n x := by kernel_rfl
theorem ok84 : EnvOK Try.prog G84 := envOK_cons hm hT ok83 Try.func84 (by kernel_rfl) fun x r hr => ⟨FU, (e84 FU x).trans hr⟩
theorem e91 (n : Nat) (x) : afun G84 T n Try.f91 a91 S91.ps S91.rs x = p91 n x := by kernel_rfl
theorem ok91 : EnvOK Try.prog G91 := envOK_cons hm hT ok84 Try.func91 (by kernel_rfl) fun x r hr => ⟨FU, (e91 FU x).trans hr⟩
theorem e76 (n : Nat) (x) : afun G91 T n Try.f76 a76 S76.ps S76.rs x = p76 n x := by kernel_rfl
theorem ok76 : EnvOK Try.prog G76 := envOK_cons hm hT ok91 Try.func76 (by kernel_rfl) fun x r hr => ⟨FU, (e76 FU x).trans hr⟩
theorem e75 (n : Nat) (x) : afun G76 T n Try.f75 a75 S75.ps S75.rs x = p75 n x := by kernel_rfl
theorem ok75 : EnvOK Try.prog G75 := envOK_cons hm hT ok76 Try.func75 (by kernel_rfl) fun x r hr => ⟨FU, (e75 FU x).trans hr⟩
theorem e88 (n : Nat) (x) : afun G75 T n Try.f88 a88 S88.ps S88.rs x = p88 n x := by kernel_rfl
theorem ok88 : EnvOK Try.prog G88 := envOK_cons hm hT ok75 Try.func88 (by kernel_rfl) fun x r hr => ⟨FU, (e88 FU x).trans hr⟩
theorem e74 (n : Nat) (x) : afun G88 T n Try.f74 a74 S74.ps S74.rs x = p74 n x := by kernel_rfl
theorem ok74 : EnvOK Try.prog G74 := envOK_cons hm hT ok88 Try.func74 (by kernel_rfl) fun x r hr => ⟨FU, (e74 FU x).trans hr⟩
theorem e89 (n : Nat) (x) : afun G74 T n Try.f89 a89 S89.ps S89.rs x = p89 n x := by kernel_rfl
theorem ok89 : EnvOK Try.prog G89 := envOK_cons hm hT ok74 Try.func89 (by kernel_rfl) fun x r hr => ⟨FU, (e89 FU x).trans hr⟩
theorem e33 (n : Nat) (x) : afun G89 T n Try.f33 a33 S33.ps S33.rs x = p33 n x := by kernel_rfl
theorem ok33 : EnvOK Try.prog G33 := envOK_cons hm hT ok89 Try.func33 (by kernel_rfl) fun x r hr => ⟨FU, (e33 FU x).trans hr⟩
theorem e81 (n : Nat) (x) : afun G33 T n Try.f81 a81 S81.ps S81.rs x = p81 n x := by kernel_rfl
theorem ok81 : EnvOK Try.prog G81 := envOK_cons hm hT ok33 Try.func81 (by kernel_rfl) fun x r hr => ⟨FU, (e81 FU x).trans hr⟩
theorem e24 (n : Nat) (x) : afun G81 T n Try.f24 a24 S24.ps S24.rs x = p24 n x := by kernel_rfl
theorem ok24 : EnvOK Try.prog G24 := envOK_cons hm hT ok81 Try.func24 (by kernel_rfl) fun x r hr => ⟨FU, (e24 FU x).trans hr⟩
theorem e34 (n : Nat) (x) : afun G24 T n Try.f34 a34 S34.ps S34.rs x = p34 n x := by kernel_rfl
theorem ok34 : EnvOK Try.prog G34 := envOK_cons hm hT ok24 Try.func34 (by kernel_rfl) fun x r hr => ⟨FU, (e34 FU x).trans hr⟩
theorem e7 (n : Nat) (x) : afun G34 T n Try.f7 a7 S7.ps S7.rs x = p7 n x := by kernel_rfl
theorem ok7 : EnvOK Try.prog G7 := envOK_cons hm hT ok34 Try.func7 (by kernel_rfl) fun x r hr => ⟨FU, (e7 FU x).trans hr⟩
end Go.RvP
