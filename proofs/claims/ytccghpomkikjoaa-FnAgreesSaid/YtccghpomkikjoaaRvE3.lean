/- Each function of the program is as its plain function says, for FnAgrees. No condition. -/
import Derived.Test.YtccghpomkikjoaaRvP3
import Derived.Test.YtccghpomkikjoaaProg
import Derived.KernelRfl
import Derived.WalkKit
import Derived.Shelf.RegionOpenPlain
namespace Go.RvP
open Go Go.Rv Go.Proofs Go.Shelf Go.RowKit Go.Lib Go.Sort
set_option maxRecDepth 100000
theorem hm : Try.prog.follows .mixedOrders = true := by kernel_rfl
theorem hT : TabOK Try.prog T := tabOK_of (by kernel_rfl)
noncomputable def BB : Bodies := [(43, Try.f43), (44, Try.f44), (67, Try.f67), (68, Try.f68), (70, Try.f70), (71, Try.f71), (76, Try.f76), (81, Try.f81), (82, Try.f82), (87, Try.f87), (118, Try.f118), (124, Try.f124), (160, Try.f160)]
theorem hBB : BodyOK Try.prog BB := (bodyOK_cons Try.func43 (by kernel_rfl) (bodyOK_cons Try.func44 (by kernel_rfl) (bodyOK_cons Try.func67 (by kernel_rfl) (bodyOK_cons Try.func68 (by kernel_rfl) (bodyOK_cons Try.func70 (by kernel_rfl) (bodyOK_cons Try.func71 (by kernel_rfl) (bodyOK_cons Try.func76 (by kernel_rfl) (bodyOK_cons Try.func81 (by kernel_rfl) (bodyOK_cons Try.func82 (by kernel_rfl) (bodyOK_cons Try.func87 (by kernel_rfl) (bodyOK_cons Try.func118 (by kernel_rfl) (bodyOK_cons Try.func124 (by kernel_rfl) (bodyOK_cons Try.func160 (by kernel_rfl) bodyOK_nil)))))))))))))
theorem e_laws_lwBig (n : Nat) (x) : afun [] T BB 0 n Try.f6 a_laws_lwBig S_laws_lwBig.ps S_laws_lwBig.rs x = p_laws_lwBig n x := by kernel_rfl
theorem ok_laws_lwBig : EnvOK Try.prog G_laws_lwBig := envOK_cons hm hT envOK_nil Try.func6 (by kernel_rfl) hBB fun x r hr => ⟨FU, (e_laws_lwBig FU x).trans hr⟩
theorem e_laws_lwAt (n : Nat) (x) : afun G_laws_lwBig T BB 0 n Try.f7 a_laws_lwAt S_laws_lwAt.ps S_laws_lwAt.rs x = p_laws_lwAt n x := by kernel_rfl
theorem ok_laws_lwAt : EnvOK Try.prog G_laws_lwAt := envOK_cons hm hT ok_laws_lwBig Try.func7 (by kernel_rfl) hBB fun x r hr => ⟨FU, (e_laws_lwAt FU x).trans hr⟩
theorem e_laws_lwReached (n : Nat) (x) : afun G_laws_lwAt T BB 0 n Try.f9 a_laws_lwReached S_laws_lwReached.ps S_laws_lwReached.rs x = p_laws_lwReached n x := by kernel_rfl
theorem ok_laws_lwReached : EnvOK Try.prog G_laws_lwReached := envOK_cons hm hT ok_laws_lwAt Try.func9 (by kernel_rfl) hBB fun x r hr => ⟨FU, (e_laws_lwReached FU x).trans hr⟩
theorem e_impl_size_impl_Acceptor (n : Nat) (x) : afun G_laws_lwReached T BB 0 n Try.f33 a_impl_size_impl_Acceptor S_impl_size_impl_Acceptor.ps S_impl_size_impl_Acceptor.rs x = p_impl_size_impl_Acceptor n x := by kernel_rfl
theorem ok_impl_size_impl_Acceptor : EnvOK Try.prog G_impl_size_impl_Acceptor := envOK_cons hm hT ok_laws_lwReached Try.func33 (by kernel_rfl) hBB fun x r hr => ⟨FU, (e_impl_size_impl_Acceptor FU x).trans hr⟩
theorem e_impl_within (n : Nat) (x) : afun G_impl_size_impl_Acceptor T BB 0 n Try.f56 a_impl_within S_impl_within.ps S_impl_within.rs x = p_impl_within n x := by kernel_rfl
theorem ok_impl_within : EnvOK Try.prog G_impl_within := envOK_cons hm hT ok_impl_size_impl_Acceptor Try.func56 (by kernel_rfl) hBB fun x r hr => ⟨FU, (e_impl_within FU x).trans hr⟩
theorem e_impl_isId (n : Nat) (x) : afun G_impl_within T BB 0 n Try.f64 a_impl_isId S_impl_isId.ps S_impl_isId.rs x = p_impl_isId n x := by kernel_rfl
theorem ok_impl_isId : EnvOK Try.prog G_impl_isId := envOK_cons hm hT ok_impl_within Try.func64 (by kernel_rfl) hBB fun x r hr => ⟨FU, (e_impl_isId FU x).trans hr⟩
theorem e_impl_isShard (n : Nat) (x) : afun G_impl_isId T BB 0 n Try.f65 a_impl_isShard S_impl_isShard.ps S_impl_isShard.rs x = p_impl_isShard n x := by kernel_rfl
theorem ok_impl_isShard : EnvOK Try.prog G_impl_isShard := envOK_cons hm hT ok_impl_isId Try.func65 (by kernel_rfl) hBB fun x r hr => ⟨FU, (e_impl_isShard FU x).trans hr⟩
theorem e_impl_isBallot (n : Nat) (x) : afun G_impl_isShard T BB 0 n Try.f30 a_impl_isBallot S_impl_isBallot.ps S_impl_isBallot.rs x = p_impl_isBallot n x := by kernel_rfl
theorem ok_impl_isBallot : EnvOK Try.prog G_impl_isBallot := envOK_cons hm hT ok_impl_isShard Try.func30 (by kernel_rfl) hBB fun x r hr => ⟨FU, (e_impl_isBallot FU x).trans hr⟩
theorem e_impl_isValue (n : Nat) (x) : afun G_impl_isBallot T BB 0 n Try.f31 a_impl_isValue S_impl_isValue.ps S_impl_isValue.rs x = p_impl_isValue n x := by kernel_rfl
theorem ok_impl_isValue : EnvOK Try.prog G_impl_isValue := envOK_cons hm hT ok_impl_isBallot Try.func31 (by kernel_rfl) hBB fun x r hr => ⟨FU, (e_impl_isValue FU x).trans hr⟩
theorem e_impl_isVote (n : Nat) (x) : afun G_impl_isValue T BB 0 n Try.f75 a_impl_isVote S_impl_isVote.ps S_impl_isVote.rs x = p_impl_isVote n x := by kernel_rfl
theorem ok_impl_isVote : EnvOK Try.prog G_impl_isVote := envOK_cons hm hT ok_impl_isValue Try.func75 (by kernel_rfl) hBB fun x r hr => ⟨FU, (e_impl_isVote FU x).trans hr⟩
theorem e_impl_castFault (n : Nat) (x) : afun G_impl_isVote T BB 0 n Try.f122 a_impl_castFault S_impl_castFault.ps S_impl_castFault.rs x = p_impl_castFault n x := by kernel_rfl
theorem ok_impl_castFault : EnvOK Try.prog G_impl_castFault := envOK_cons hm hT ok_impl_isVote Try.func122 (by kernel_rfl) hBB fun x r hr => ⟨FU, (e_impl_castFault FU x).trans hr⟩
theorem e_impl_noVote (n : Nat) (x) : afun G_impl_castFault T BB 0 n Try.f74 a_impl_noVote S_impl_noVote.ps S_impl_noVote.rs x = p_impl_noVote n x := by kernel_rfl
theorem ok_impl_noVote : EnvOK Try.prog G_impl_noVote := envOK_cons hm hT ok_impl_castFault Try.func74 (by kernel_rfl) hBB fun x r hr => ⟨FU, (e_impl_noVote FU x).trans hr⟩
theorem e_impl_lastCast (n : Nat) (x) : afun G_impl_noVote T BB 0 n Try.f123 a_impl_lastCast S_impl_lastCast.ps S_impl_lastCast.rs x = p_impl_lastCast n x := by kernel_rfl
theorem ok_impl_lastCast : EnvOK Try.prog G_impl_lastCast := envOK_cons hm hT ok_impl_noVote Try.func123 (by kernel_rfl) hBB fun x r hr => ⟨FU, (e_impl_lastCast FU x).trans hr⟩
theorem e_impl_SlotFault (n : Nat) (x) : afun G_impl_lastCast T BB 0 n Try.f79 a_impl_SlotFault S_impl_SlotFault.ps S_impl_SlotFault.rs x = p_impl_SlotFault n x := by kernel_rfl
theorem ok_impl_SlotFault : EnvOK Try.prog G_impl_SlotFault := envOK_cons hm hT ok_impl_lastCast Try.func79 (by kernel_rfl) hBB fun x r hr => ⟨FU, (e_impl_SlotFault FU x).trans hr⟩
theorem e_cmp_isNaN_int64 (n : Nat) (x) : afun G_impl_SlotFault T BB 0 n Try.f189 a_cmp_isNaN_int64 S_cmp_isNaN_int64.ps S_cmp_isNaN_int64.rs x = p_cmp_isNaN_int64 n x := by kernel_rfl
theorem ok_cmp_isNaN_int64 : EnvOK Try.prog G_cmp_isNaN_int64 := envOK_cons hm hT ok_impl_SlotFault Try.func189 (by kernel_rfl) hBB fun x r hr => ⟨FU, (e_cmp_isNaN_int64 FU x).trans hr⟩
theorem e_cmp_Compare_int64 (n : Nat) (x) : afun G_cmp_isNaN_int64 T BB 0 n Try.f159 a_cmp_Compare_int64 S_cmp_Compare_int64.ps S_cmp_Compare_int64.rs x = p_cmp_Compare_int64 n x := by kernel_rfl
theorem ok_cmp_Compare_int64 : EnvOK Try.prog G_cmp_Compare_int64 := envOK_cons hm hT ok_cmp_isNaN_int64 Try.func159 (by kernel_rfl) hBB fun x r hr => ⟨FU, (e_cmp_Compare_int64 FU x).trans hr⟩
theorem e_cmp_Or_int (n : Nat) (x) : afun G_cmp_Compare_int64 T BB 0 n Try.f158 a_cmp_Or_int S_cmp_Or_int.ps S_cmp_Or_int.rs x = p_cmp_Or_int n x := by kernel_rfl
theorem ok_cmp_Or_int : EnvOK Try.prog G_cmp_Or_int := envOK_cons hm hT ok_cmp_Compare_int64 Try.func158 (by kernel_rfl) hBB fun x r hr => ⟨FU, (e_cmp_Or_int FU x).trans hr⟩
theorem e_impl_compareSlots (n : Nat) (x) : afun G_cmp_Or_int T BB 0 n Try.f117 a_impl_compareSlots S_impl_compareSlots.ps S_impl_compareSlots.rs x = p_impl_compareSlots n x := by kernel_rfl
theorem ok_impl_compareSlots : EnvOK Try.prog G_impl_compareSlots := envOK_cons hm hT ok_cmp_Or_int Try.func117 (by kernel_rfl) hBB fun x r hr => ⟨FU, (e_impl_compareSlots FU x).trans hr⟩
theorem e_impl_AcceptorFault (n : Nat) (x) : afun G_impl_compareSlots T BB 0 n Try.f63 a_impl_AcceptorFault S_impl_AcceptorFault.ps S_impl_AcceptorFault.rs x = p_impl_AcceptorFault n x := by kernel_rfl
theorem ok_impl_AcceptorFault : EnvOK Try.prog G_impl_AcceptorFault := envOK_cons hm hT ok_impl_compareSlots Try.func63 (by kernel_rfl) hBB fun x r hr => ⟨FU, (e_impl_AcceptorFault FU x).trans hr⟩
theorem e_impl_listFault (n : Nat) (x) : afun G_impl_AcceptorFault T BB 0 n Try.f28 a_impl_listFault S_impl_listFault.ps S_impl_listFault.rs x = p_impl_listFault n x := by kernel_rfl
theorem ok_impl_listFault : EnvOK Try.prog G_impl_listFault := envOK_cons hm hT ok_impl_AcceptorFault Try.func28 (by kernel_rfl) hBB fun x r hr => ⟨FU, (e_impl_listFault FU x).trans hr⟩
theorem e_impl_newSlot (n : Nat) (x) : afun G_impl_listFault T BB 0 n Try.f66 a_impl_newSlot S_impl_newSlot.ps S_impl_newSlot.rs x = p_impl_newSlot n x := by kernel_rfl
theorem ok_impl_newSlot : EnvOK Try.prog G_impl_newSlot := envOK_cons hm hT ok_impl_listFault Try.func66 (by kernel_rfl) hBB fun x r hr => ⟨FU, (e_impl_newSlot FU x).trans hr⟩
theorem e_impl_NewSlot (n : Nat) (x) : afun G_impl_newSlot T BB 0 n Try.f29 a_impl_NewSlot S_impl_NewSlot.ps S_impl_NewSlot.rs x = p_impl_NewSlot n x := by kernel_rfl
theorem ok_impl_NewSlot : EnvOK Try.prog G_impl_NewSlot := envOK_cons hm hT ok_impl_newSlot Try.func29 (by kernel_rfl) hBB fun x r hr => ⟨FU, (e_impl_NewSlot FU x).trans hr⟩
theorem e_impl_firstOf (n : Nat) (x) : afun G_impl_NewSlot T BB 0 n Try.f27 a_impl_firstOf S_impl_firstOf.ps S_impl_firstOf.rs x = p_impl_firstOf n x := by kernel_rfl
theorem ok_impl_firstOf : EnvOK Try.prog G_impl_firstOf := envOK_cons hm hT ok_impl_NewSlot Try.func27 (by kernel_rfl) hBB fun x r hr => ⟨FU, (e_impl_firstOf FU x).trans hr⟩
theorem e_impl_reachedFault (n : Nat) (x) : afun G_impl_firstOf T BB 3 n Try.f32 a_impl_reachedFault S_impl_reachedFault.ps S_impl_reachedFault.rs x = p_impl_reachedFault n x := by kernel_rfl
theorem ok_impl_reachedFault : EnvOK Try.prog G_impl_reachedFault := envOK_cons hm hT ok_impl_firstOf Try.func32 (by kernel_rfl) hBB fun x r hr => ⟨FU, (e_impl_reachedFault FU x).trans hr⟩
theorem e_slices_Clone_impl_Vote_impl_Vote (n : Nat) (x) : afun G_impl_reachedFault T BB 0 n Try.f84 a_slices_Clone_impl_Vote_impl_Vote S_slices_Clone_impl_Vote_impl_Vote.ps S_slices_Clone_impl_Vote_impl_Vote.rs x = p_slices_Clone_impl_Vote_impl_Vote n x := by kernel_rfl
theorem ok_slices_Clone_impl_Vote_impl_Vote : EnvOK Try.prog G_slices_Clone_impl_Vote_impl_Vote := envOK_cons hm hT ok_impl_reachedFault Try.func84 (by kernel_rfl) hBB fun x r hr => ⟨FU, (e_slices_Clone_impl_Vote_impl_Vote FU x).trans hr⟩
theorem e_impl_copySlot (n : Nat) (x) : afun G_slices_Clone_impl_Vote_impl_Vote T BB 0 n Try.f119 a_impl_copySlot S_impl_copySlot.ps S_impl_copySlot.rs x = p_impl_copySlot n x := by kernel_rfl
theorem ok_impl_copySlot : EnvOK Try.prog G_impl_copySlot := envOK_cons hm hT ok_slices_Clone_impl_Vote_impl_Vote Try.func119 (by kernel_rfl) hBB fun x r hr => ⟨FU, (e_impl_copySlot FU x).trans hr⟩
theorem e_impl_copyAcceptor (n : Nat) (x) : afun G_impl_copySlot T BB 0 n Try.f69 a_impl_copyAcceptor S_impl_copyAcceptor.ps S_impl_copyAcceptor.rs x = p_impl_copyAcceptor n x := by kernel_rfl
theorem ok_impl_copyAcceptor : EnvOK Try.prog G_impl_copyAcceptor := envOK_cons hm hT ok_impl_copySlot Try.func69 (by kernel_rfl) hBB fun x r hr => ⟨FU, (e_impl_copyAcceptor FU x).trans hr⟩
theorem e_impl_copyAcceptors (n : Nat) (x) : afun G_impl_copyAcceptor T BB 0 n Try.f34 a_impl_copyAcceptors S_impl_copyAcceptors.ps S_impl_copyAcceptors.rs x = p_impl_copyAcceptors n x := by kernel_rfl
theorem ok_impl_copyAcceptors : EnvOK Try.prog G_impl_copyAcceptors := envOK_cons hm hT ok_impl_copyAcceptor Try.func34 (by kernel_rfl) hBB fun x r hr => ⟨FU, (e_impl_copyAcceptors FU x).trans hr⟩
theorem e_impl_Acceptor_slotAt (n : Nat) (x) : afun G_impl_copyAcceptors T BB 1 n Try.f120 a_impl_Acceptor_slotAt S_impl_Acceptor_slotAt.ps S_impl_Acceptor_slotAt.rs x = p_impl_Acceptor_slotAt n x := by kernel_rfl
theorem ok_impl_Acceptor_slotAt : EnvOK Try.prog G_impl_Acceptor_slotAt := envOK_cons hm hT ok_impl_copyAcceptors Try.func120 (by kernel_rfl) hBB fun x r hr => ⟨FU, (e_impl_Acceptor_slotAt FU x).trans hr⟩
theorem e_impl_Acceptor_slot (n : Nat) (x) : afun G_impl_Acceptor_slotAt T BB 0 n Try.f78 a_impl_Acceptor_slot S_impl_Acceptor_slot.ps S_impl_Acceptor_slot.rs x = p_impl_Acceptor_slot n x := by kernel_rfl
theorem ok_impl_Acceptor_slot : EnvOK Try.prog G_impl_Acceptor_slot := envOK_cons hm hT ok_impl_Acceptor_slotAt Try.func78 (by kernel_rfl) hBB fun x r hr => ⟨FU, (e_impl_Acceptor_slot FU x).trans hr⟩
theorem e_impl_PromiseSlot (n : Nat) (x) : afun G_impl_Acceptor_slot T BB 0 n Try.f72 a_impl_PromiseSlot S_impl_PromiseSlot.ps S_impl_PromiseSlot.rs x = p_impl_PromiseSlot n x := by kernel_rfl
theorem ok_impl_PromiseSlot : EnvOK Try.prog G_impl_PromiseSlot := envOK_cons hm hT ok_impl_Acceptor_slot Try.func72 (by kernel_rfl) hBB fun x r hr => ⟨FU, (e_impl_PromiseSlot FU x).trans hr⟩
theorem info73_slices_Insert_impl_Slot_impl_Slot : ∃ i z, Try.prog.info? 73 = some i ∧ i.zero = some z ∧ i.size = 6 ∧ i.bytes = 64 ∧ z.cells.size = 6 := by
  have h : (Try.prog.info? 73).map (fun i => (i.size, i.bytes, i.zero.map fun z => z.cells.size)) = some (6, 64, some 6) := by kernel_rfl
  cases hi : Try.prog.info? 73 with
  | none => rw [hi] at h; cases h
  | some i =>
    rw [hi] at h
    simp only [Option.map_some, Option.some.injEq, Prod.mk.injEq] at h
    obtain ⟨h1, h2, h3⟩ := h
    cases hz : i.zero with
    | none => rw [hz] at h3; cases h3
    | some z =>
      rw [hz] at h3
      exact ⟨i, z, rfl, hz, h1, h2, by simpa using h3⟩
set_option maxHeartbeats 4000000 in
set_option maxRecDepth 100000 in
theorem ins_grow_slices_Insert_impl_Slot_impl_Slot (w : World) (b n i gv cv : Nat) (cur curv : Array Value) (fl vl : List Value) (hi : i < n) (hbig : (n + 1) * 64 ≤ 140737488355328) (hb : w.heap[b]? = some (.cells cur 73 (0, 0))) (hfl : cur.toList.take (n * 6) = fl) (hfs : fl.length = n * 6)
    (hv : w.heap[gv]? = some (.cells curv 73 (0, 0))) (hvl : curv.toList.take 6 = vl) (hvs : vl.length = 6) (h1c : ∀ v ∈ fl, v.oneCell' = true) (h1v : ∀ v ∈ vl, v.oneCell' = true) :
    Calls Try.prog 121 #[.slice (some ⟨b, 0, none⟩) n n, .int .i64 i, .slice (some ⟨gv, 0, none⟩) 1 cv] w fun e w' => ∃ G row, n + 1 ≤ G ∧ G ≤ maxLen ∧ e = .returned (.slice (some ⟨w.heap.size, 0, none⟩) (n + 1) G) ∧
      w'.os = w.os ∧ w'.tape = w.tape ∧ w'.output = w.output ∧ w'.heap = w.heap.push (.cells row 73 (0, 0)) ∧ row.size = G * 6 ∧ row.toList.take ((n + 1) * 6) = insC 6 i fl vl := by
  obtain ⟨i0, z, hi0, hz0, hzs, hzb, hzc⟩ := info73_slices_Insert_impl_Slot_impl_Slot
  have u63 := Try.underlying31
  have hsz : (Try.prog.info? 73).map (·.size) = some 6 := by rw [hi0]; simp [hzs]
  have hbl : b < w.heap.size := (Array.getElem?_eq_some_iff.1 hb).1
  have hvb : gv < w.heap.size := (Array.getElem?_eq_some_iff.1 hv).1
  have hz3 : (n : Int) < (n : Int) + 1 := by omega
  have hkk : (n : Int) + 1 - (i : Int) = ((n + 1 - i : Nat) : Int) := by omega
  have hik : i + (n + 1 - i) = n + 1 := by omega
  have hcell : ∀ (W : World), W.heap[b]? = w.heap[b]? → ∀ j v, fl[j]? = some v → W.cell? ⟨b, j, none⟩ = some v := fun W hW j v hj => by
    rw [← hfl, List.getElem?_take] at hj
    split at hj
    · simp only [World.cell?, hW, hb]
      rw [← Array.getElem?_toList]; exact hj
    · cases hj
  have hold : (Builtin.firstCells i0.size i (.slice (some ⟨b, 0, none⟩) i n)).run Try.prog w.drew = .ok (fl.take (i * 6)).toArray w.drew := by
    rw [hzs]
    exact run_firstCells_some w.drew 6 i ⟨b, 0, none⟩ i n (fl.take (i * 6)) (by rw [List.length_take]; omega) (fun j v hj => by
      rw [Addr.add_lit, Nat.zero_add]
      rw [List.getElem?_take] at hj
      split at hj
      · exact hcell w.drew rfl j v hj
      · cases hj)
  have hrz : ∀ ty, (Builtin.append_ #[31, 3] ty #[.slice (some ⟨b, 0, none⟩) i n, .int .i64 ((n : Int) + 1 - (i : Int))]).run Try.prog w =
      .ok (.slice (some ⟨w.heap.size, 0, none⟩) (n + 1) (grownCap w (n + 1) n 73)) (w.drew.alloc (.cells ((fl.take (i * 6)).toArray ++ Builtin.zeroCells z.cells (n + 1 - i) ++ Builtin.zeroCells z.cells (grownCap w (n + 1) n 73 - (n + 1))) 73)) := fun ty => by
    have h := Lib.run_append_grow_zeros (P := Try.prog) w 31 3 ty 73 i0 z .i64 .i64 Try.underlying31 Try.underlying3 hi0 hz0 (some ⟨b, 0, none⟩) i n (fl.take (i * 6)) hold (n + 1 - i) (by omega) (by omega) (by omega) (by omega) (by rw [hzb]; omega) (by rw [hzb, hik]; exact growslice_fits (by omega) hbig)
    rw [hik] at h
    rw [hkk]
    exact h
  obtain ⟨G, hG⟩ : ∃ G, G = grownCap w (n + 1) n 73 := ⟨_, rfl⟩
  rw [← hG] at hrz
  have hGn : n + 1 ≤ G := by rw [hG]; exact grownCap_ge w _ _ _
  have hG63 : G ≤ maxLen := by rw [hG]; exact grownCap_le_maxLen w (n + 1) n 73 (by unfold maxLen; omega)
  have hGm : G ≤ 9223372036854775807 := by have := hG63; unfold maxLen at this; omega
  obtain ⟨ROW, hROW⟩ : ∃ ROW : Array Value, ROW = (fl.take (i * 6)).toArray ++ Builtin.zeroCells z.cells (n + 1 - i) ++ Builtin.zeroCells z.cells (G - (n + 1)) := ⟨_, rfl⟩
  rw [← hROW] at hrz
  have hRl : ROW.size = G * 6 := by
    rw [hROW]
    simp only [Array.size_append, List.size_toArray, List.length_take, size_zeroCells, hzc]
    omega
  have hRt : ROW.toList.take (i * 6) = fl.take (i * 6) := by
    rw [hROW]
    simp only [Array.toList_append, List.append_assoc]
    rw [List.take_append_of_le_length (by rw [List.length_take]; omega)]
    rw [List.take_of_length_le (by rw [List.length_take]; omega)]
  obtain ⟨row2, hr2⟩ : ∃ row2 : Array Value, row2 = (ROW.toList.take (i * 6) ++ vl ++ ROW.toList.drop (i * 6 + vl.length)).toArray := ⟨_, rfl⟩
  have hr2s : row2.size = G * 6 := by
    rw [hr2]
    simp only [List.size_toArray, List.length_append, List.length_take, List.length_drop, Array.length_toList, hRl, hvs]
    omega
  obtain ⟨row3, hr3⟩ : ∃ row3 : Array Value, row3 = (row2.toList.take ((i + 1) * 6) ++ fl.drop (i * 6) ++ row2.toList.drop ((i + 1) * 6 + (fl.drop (i * 6)).length)).toArray := ⟨_, rfl⟩
  have hr3s : row3.size = G * 6 := by
    rw [hr3]
    simp only [List.size_toArray, List.length_append, List.length_take, List.length_drop, Array.length_toList, hr2s, hfs]
    omega
  have hr3t : row3.toList.take ((n + 1) * 6) = insC 6 i fl vl := by
    have e2 : row2.toList.take ((i + 1) * 6) = fl.take (i * 6) ++ vl := by
      rw [hr2, List.toList_toArray, hRt, List.take_append_of_le_length (by simp only [List.length_append, List.length_take]; omega), List.take_of_length_le (by simp only [List.length_append, List.length_take]; omega)]
    rw [hr3, List.toList_toArray, e2, List.take_append_of_le_length (by simp only [List.length_append, List.length_take, List.length_drop]; omega), List.take_of_length_le (by simp only [List.length_append, List.length_take, List.length_drop]; omega)]
    rfl
  have hcpA : ∀ (W : World), W.heap = w.heap.push (.cells ROW 73 (0, 0)) → ∀ ty dc, (Builtin.copy_ #[31, 31] ty #[.slice (some ⟨w.heap.size, i * 6, none⟩) (n + 1 - i) dc, .slice (some ⟨gv, 0, none⟩) 1 cv]).run Try.prog W = .ok (goInt 1) (W.setRow w.heap.size row2) := fun W hW ty dc => by
    have hm : Nat.min 1 (n + 1 - i) = 1 := by simp only [Nat.min_def]; split <;> omega
    have := run_copy_rowK (P := Try.prog) W 31 31 ty 73 w.heap.size (i * 6) (n + 1 - i) dc ⟨gv, 0, none⟩ 1 cv ROW 73 vl 6 Try.underlying31 hsz (by rw [hW]; simp) (by rw [hm, hvs]) (fun j v hj => by
      rw [Addr.add_lit, Nat.zero_add]
      have hg : W.heap[gv]? = some (.cells curv 73 (0, 0)) := by rw [hW, Array.getElem?_push_lt hvb, ← Array.getElem?_eq_getElem hvb]; exact hv
      rw [← hvl, List.getElem?_take] at hj
      split at hj
      · simp only [World.cell?, hg]
        rw [← Array.getElem?_toList]; exact hj
      · cases hj) (by rw [hvs, hRl]; omega) h1v
    rw [hm] at this
    rw [hr2]; exact this
  have hcpB : ∀ (W : World), W.heap = w.heap.push (.cells row2 73 (0, 0)) → ∀ ty dc sc, (Builtin.copy_ #[31, 31] ty #[.slice (some ⟨w.heap.size, (i + 1) * 6, none⟩) (n + 1 - (i + 1)) dc, .slice (some ⟨b, i * 6, none⟩) (n - i) sc]).run Try.prog W = .ok (goInt ((n - i : Nat) : Int)) (W.setRow w.heap.size row3) := fun W hW ty dc sc => by
    have hm : Nat.min (n - i) (n + 1 - (i + 1)) = n - i := by simp only [Nat.min_def]; split <;> omega
    have := run_copy_rowK (P := Try.prog) W 31 31 ty 73 w.heap.size ((i + 1) * 6) (n + 1 - (i + 1)) dc ⟨b, i * 6, none⟩ (n - i) sc row2 73 (fl.drop (i * 6)) 6 Try.underlying31 hsz (by rw [hW]; simp) (by rw [hm, List.length_drop, hfs]; omega) (fun j v hj => by
      rw [Addr.add_lit]
      rw [List.getElem?_drop] at hj
      exact hcell W (by rw [hW, Array.getElem?_push_lt hbl, ← Array.getElem?_eq_getElem hbl]) _ v hj) (by rw [List.length_drop, hfs, hr2s]; omega) (fun v hv => h1c v (List.mem_of_mem_drop hv))
    rw [hm] at this
    rw [hr3]; exact this
  have hGi : ¬ (G = i) := by omega
  have hni : ¬ (n = i) := by omega
  have mixed : Try.prog.follows Departure.mixedOrders = true := by kernel_rfl
  have hGim : ¬ (G = i + 1) := by omega
  have hw1 : IntKind.i64.wrap ((i : Int) + 1) = (i : Int) + 1 := by rw [IntKind.wrap_i64]; omega
  have hb1 : (0 : Int) ≤ (i : Int) + 1 := by omega
  have hin : i ≤ n := by omega
  have htn : ((i : Int) + 1).toNat = i + 1 := by omega
  have hE1 : ((w.alloc (.cells ROW 73)).drew).heap = w.heap.push (.cells ROW 73 (0, 0)) := rfl
  have hF1 : (((w.alloc (.cells ROW 73)).drew.setRow w.heap.size row2).drew).heap = w.heap.push (.cells row2 73 (0, 0)) := heap_setRow_push hE1
  clear hkk hik hold hROW hRl hRt hr2 hr3 hG
  refine Calls.mono (R := fun e w' => e = .returned (.slice (some ⟨w.heap.size, 0, none⟩) (n + 1) G) ∧ w' = (((w.alloc (.cells ROW 73)).drew.setRow w.heap.size row2).drew.setRow w.heap.size row3)) ?_ (fun e w' h => ⟨G, row3, hGn, hG63, h.1, by rw [h.2]; rfl, by rw [h.2]; rfl, by rw [h.2]; rfl, by rw [h.2]; exact heap_setRow_push hF1, hr3s, hr3t⟩)
  go_enter Try.func121, Try.ntmps121
  go_wp2_with (first
    | (at_builtin; refine Lib.wpList_append_run _ rfl _ _ _ _ rfl _ _ rfl rfl _ _ (hrz _) ?_)
    | (at_builtin; refine wpList_copy_runI _ rfl _ _ 31 31 rfl _ _ rfl rfl (hcpA _ hE1 _ _) ?_))
  go_region_law_o (refine step_copy_runI rfl _ _ 31 31 rfl (.slice (some ⟨w.heap.size, (i + 1) * 6, none⟩) (n + 1 - (i + 1)) (G - (i + 1))) (.slice (some ⟨b, i * 6, none⟩) (n - i) (n - i)) (by simp [Act.eval, Act.put, hni, hGi, hGim]) (by simp [Act.eval, Act.put, hni, hGi, hGim]) (hcpB _ hF1 3 (G - (i + 1)) (n - i)) ?_)
  go_wp2
  go_ret
  exact ⟨rfl, rfl⟩

set_option maxHeartbeats 4000000 in
set_option maxRecDepth 100000 in
theorem ins_room_slices_Insert_impl_Slot_impl_Slot (w : World) (b n c i gv cv : Nat) (cur curv : Array Value) (fl vl : List Value) (hi : i < n) (hroom : n + 1 ≤ c) (hc63 : c ≤ 9223372036854775807) (hne : gv ≠ b) (hb : w.heap[b]? = some (.cells cur 73 (0, 0))) (hcs : cur.size = c * 6) (hfl : cur.toList.take (n * 6) = fl) (hfs : fl.length = n * 6)
    (hv : w.heap[gv]? = some (.cells curv 73 (0, 0))) (hvl : curv.toList.take 6 = vl) (hvs : vl.length = 6) (h1c : ∀ v ∈ fl, v.oneCell' = true) (h1v : ∀ v ∈ vl, v.oneCell' = true) :
    ∃ row, row.size = c * 6 ∧ row.toList.take ((n + 1) * 6) = insC 6 i fl vl ∧
    Calls Try.prog 121 #[.slice (some ⟨b, 0, none⟩) n c, .int .i64 i, .slice (some ⟨gv, 0, none⟩) 1 cv] w fun e w' =>  e = .returned (.slice (some ⟨b, 0, none⟩) (n + 1) c) ∧ w'.os = w.os ∧ w'.tape = w.tape ∧ w'.output = w.output ∧ w'.heap = (w.setRow b row).heap := by
  obtain ⟨i0, z, hi0, hz0, hzs, hzb, hzc⟩ := info73_slices_Insert_impl_Slot_impl_Slot
  have u63 := Try.underlying31
  have hsz : (Try.prog.info? 73).map (·.size) = some 6 := by rw [hi0]; simp [hzs]
  have hbl : b < w.heap.size := (Array.getElem?_eq_some_iff.1 hb).1
  have hvb : gv < w.heap.size := (Array.getElem?_eq_some_iff.1 hv).1
  have mixed : Try.prog.follows Departure.mixedOrders = true := by kernel_rfl
  have hcell : ∀ (W : World) (cu : Array Value), W.heap[b]? = some (.cells cu 73 (0, 0)) → cu = cur → ∀ j v, fl[j]? = some v → W.cell? ⟨b, j, none⟩ = some v := fun W cu hW hcu j v hj => by
    subst hcu
    rw [← hfl, List.getElem?_take] at hj
    split at hj
    · simp only [World.cell?, hW]
      rw [← Array.getElem?_toList]; exact hj
    · cases hj
  obtain ⟨row1, hr1⟩ : ∃ row1 : Array Value, row1 = (cur.toList.take ((i + 1) * 6) ++ fl.drop (i * 6) ++ cur.toList.drop ((i + 1) * 6 + (fl.drop (i * 6)).length)).toArray := ⟨_, rfl⟩
  have hr1s : row1.size = c * 6 := by
    rw [hr1]
    simp only [List.size_toArray, List.length_append, List.length_take, List.length_drop, Array.length_toList, hcs, hfs]
    omega
  obtain ⟨row2, hr2⟩ : ∃ row2 : Array Value, row2 = (row1.toList.take (i * 6) ++ vl ++ row1.toList.drop (i * 6 + vl.length)).toArray := ⟨_, rfl⟩
  have hr2s : row2.size = c * 6 := by
    rw [hr2]
    simp only [List.size_toArray, List.length_append, List.length_take, List.length_drop, Array.length_toList, hr1s, hvs]
    omega
  have hr2t : row2.toList.take ((n + 1) * 6) = insC 6 i fl vl := by
    have e0 : cur.toList.take (i * 6) = fl.take (i * 6) := by
      rw [← hfl, List.take_take]; congr 1; omega
    have e1 : row1.toList.take (i * 6) = fl.take (i * 6) := by
      rw [hr1, List.toList_toArray, List.append_assoc, List.take_append_of_le_length (by simp only [List.length_take, Array.length_toList, hcs]; omega), List.take_take, ← e0]
      congr 1; omega
    have e2 : row1.toList.drop (i * 6 + vl.length) = fl.drop (i * 6) ++ cur.toList.drop ((i + 1) * 6 + (fl.drop (i * 6)).length) := by
      rw [hr1, List.toList_toArray, List.append_assoc]
      have : (cur.toList.take ((i + 1) * 6)).length = i * 6 + vl.length := by simp only [List.length_take, Array.length_toList, hcs, hvs]; omega
      rw [← this, List.drop_left]
    rw [hr2, List.toList_toArray, e1, e2, ← List.append_assoc, List.take_append_of_le_length (by simp only [List.length_append, List.length_take, List.length_drop]; omega), List.take_of_length_le (by simp only [List.length_append, List.length_take, List.length_drop]; omega)]
    rfl
  have hcp1 : ∀ ty dc sc, (Builtin.copy_ #[31, 31] ty #[.slice (some ⟨b, (i + 1) * 6, none⟩) (n + 1 - (i + 1)) dc, .slice (some ⟨b, i * 6, none⟩) (n + 1 - i) sc]).run Try.prog w.drew = .ok (goInt ((n - i : Nat) : Int)) (w.drew.setRow b row1) := fun ty dc sc => by
    have hm : Nat.min (n + 1 - i) (n + 1 - (i + 1)) = n - i := by simp only [Nat.min_def]; split <;> omega
    have := run_copy_rowK (P := Try.prog) w.drew 31 31 ty 73 b ((i + 1) * 6) (n + 1 - (i + 1)) dc ⟨b, i * 6, none⟩ (n + 1 - i) sc cur 73 (fl.drop (i * 6)) 6 Try.underlying31 hsz hb (by rw [hm, List.length_drop, hfs]; omega) (fun j v hj => by
      rw [Addr.add_lit]
      rw [List.getElem?_drop] at hj
      exact hcell w.drew cur hb rfl _ v hj) (by rw [List.length_drop, hfs, hcs]; omega) (fun v hv => h1c v (List.mem_of_mem_drop hv))
    rw [hm] at this
    rw [hr1]; exact this
  have hcp2 : ∀ (W : World), W.heap = (w.setRow b row1).heap → ∀ ty dc, (Builtin.copy_ #[31, 31] ty #[.slice (some ⟨b, i * 6, none⟩) (n + 1 - i) dc, .slice (some ⟨gv, 0, none⟩) 1 cv]).run Try.prog W = .ok (goInt 1) (W.setRow b row2) := fun W hW ty dc => by
    have hm : Nat.min 1 (n + 1 - i) = 1 := by simp only [Nat.min_def]; split <;> omega
    have := run_copy_rowK (P := Try.prog) W 31 31 ty 73 b (i * 6) (n + 1 - i) dc ⟨gv, 0, none⟩ 1 cv row1 73 vl 6 Try.underlying31 hsz (by rw [hW]; exact set_row_some hb) (by rw [hm, hvs]) (fun j v hj => by
      rw [Addr.add_lit, Nat.zero_add]
      have hg : W.heap[gv]? = some (.cells curv 73 (0, 0)) := by rw [hW, setRow_other w b gv row1 hne]; exact hv
      rw [← hvl, List.getElem?_take] at hj
      split at hj
      · simp only [World.cell?, hg]
        rw [← Array.getElem?_toList]; exact hj
      · cases hj) (by rw [hvs, hr1s]; omega) h1v
    rw [hm] at this
    rw [hr2]; exact this
  have hov : ∀ lb cb, (callFunc 161 #[.slice (some ⟨gv, 0, none⟩) 1 cv, .slice (some ⟨b, (i + 1) * 6, none⟩) lb cb]).run Try.prog w = .ok (.value (.bool false)) w := fun lb cb => by
    rw [run_callFunc_extern Try.func161 (by kernel_rfl) (by kernel_rfl) (by kernel_rfl) (e := Extern.SlicesOverlaps.overlaps #[31, 31] #[4]) (by kernel_rfl),
      Lib.run_overlaps_apart w 31 4 73 Try.underlying31 6 (fun w => by simp [sizeOf, typeInfo, hi0, hzs]) ⟨gv, 0, none⟩ ⟨b, (i + 1) * 6, none⟩ 1 cv lb cb hne 73 73 curv.size cur.size (by simp only [World.shape?, hv]) (by simp only [World.shape?, hb]) (by rw [hcs]; omega) (by simp [World.frozen?, hv]) (by simp [World.frozen?, hv])]
    rfl
  have hz2 : ¬ ((i : Int) = (n : Int)) := by omega
  have hw1 : IntKind.i64.wrap ((i : Int) + 1) = (i : Int) + 1 := by rw [IntKind.wrap_i64]; omega
  have hb1 : (0 : Int) ≤ (i : Int) + 1 := by omega
  have hin : i ≤ n := by omega
  have htn : ((i : Int) + 1).toNat = i + 1 := by omega
  have hb2 : ¬ (c = i + 1) := by omega
  have hb3 : (i : Int) ≤ (n : Int) + 1 := by omega
  have hb4 : ¬ (c = i) := by omega
  have hF1 : (w.drew.setRow b row1).heap = (w.setRow b row1).heap := rfl
  refine ⟨row2, hr2s, hr2t, Calls.mono (R := fun e w' => e = .returned (.slice (some ⟨b, 0, none⟩) (n + 1) c) ∧ w' = ((w.drew.setRow b row1).setRow b row2)) ?_ (fun e w' h => ⟨h.1, by rw [h.2]; rfl, by rw [h.2]; rfl, by rw [h.2]; rfl, by rw [h.2]; show ((w.setRow b row1).setRow b row2).heap = _; rw [setRow_setRow]⟩)⟩
  clear hr1 hr2 hr1s hr2s hr2t
  go_enter Try.func121, Try.ntmps121
  go_wp2_with (simp only [hov])
  go_region_law_o (refine step_copy_runI rfl _ _ 31 31 rfl (.slice (some ⟨b, (i + 1) * 6, none⟩) (n + 1 - (i + 1)) (c - (i + 1))) (.slice (some ⟨b, i * 6, none⟩) (n + 1 - i) (c - i)) (by simp [Act.eval, Act.put, hb2, hb4]) (by simp [Act.eval, Act.put, hb2, hb4]) (hcp1 3 (c - (i + 1)) (c - i)) ?_)
  go_wp2_with (at_builtin; refine wpList_copy_runI _ rfl _ _ 31 31 rfl _ _ rfl rfl (hcp2 _ hF1 _ _) ?_)
  go_ret
  exact ⟨rfl, rfl⟩

set_option maxHeartbeats 4000000 in
set_option maxRecDepth 100000 in
theorem ins_end_slices_Insert_impl_Slot_impl_Slot (w : World) (v : Value) (n gv cv : Nat) (curv : Array Value) (fl vl : List Value) (hn63 : n + 1 ≤ maxLen) (hbig : (n + 1) * 64 ≤ 140737488355328) (how : Go.Rv.Own w 73 6 v n fl)
    (hv : w.heap[gv]? = some (.cells curv 73 (0, 0))) (hvl : curv.toList.take 6 = vl) (hvs : vl.length = 6) (h1v : ∀ v ∈ vl, v.oneCell' = true) :
    ∃ v' w', Go.Rv.Own w' 73 6 v' (n + 1) (fl ++ vl) ∧ w.grownBy w' (ownB v) ∧ (∀ g, ownB v' = some g → w.heap.size ≤ g ∨ ownB v = some g) ∧ 
    Calls Try.prog 121 #[v, .int .i64 n, .slice (some ⟨gv, 0, none⟩) 1 cv] w fun e w1 =>  e = .returned v' ∧ w1 = w' := by
  obtain ⟨i0, z, hi0, hz0, hzs, hzb, hzc⟩ := info73_slices_Insert_impl_Slot_impl_Slot
  have u63 := Try.underlying31
  have mixed : Try.prog.follows Departure.mixedOrders = true := by kernel_rfl
  obtain ⟨v', w', hrun, ho, hgr, hblk⟩ := run_append_Own (P := Try.prog) (w := w) (t := 31) (ty := 31) Try.underlying31 hi0 hz0 hzs hzb hzc (by decide) how ⟨gv, 0, none⟩ 1 cv vl (by rw [hvs]) (fun j u hj => by
    rw [Addr.add_lit, Nat.zero_add]
    rw [← hvl, List.getElem?_take] at hj
    split at hj
    · simp only [World.cell?, hv]
      rw [← Array.getElem?_toList]; exact hj
    · cases hj) h1v hn63 hbig
  refine ⟨v', w', ho, hgr, hblk, ?_⟩
  rcases how.2 with ⟨A, rfl, rfl⟩ | ⟨b, cap, cur, rfl, hb, hcb, hnc, hcm, hcs, htk⟩
  · cases A with
    | none =>
      clear ho hgr hblk how
      go_enter Try.func121, Try.ntmps121
      go_wp2_with (at_builtin; refine Lib.wpList_append_run _ rfl _ _ _ _ rfl _ _ rfl rfl _ _ hrun ?_)
      go_ret
      exact ⟨rfl, rfl⟩
    | some a0 =>
      obtain ⟨a1, a2, a3⟩ := a0
      clear ho hgr hblk how
      go_enter Try.func121, Try.ntmps121
      go_wp2_with (at_builtin; refine Lib.wpList_append_run _ rfl _ _ _ _ rfl _ _ rfl rfl _ _ hrun ?_)
      go_ret
      exact ⟨rfl, rfl⟩
  · have hc2 : cap ≤ 9223372036854775807 := hcm
    clear ho hgr hblk how
    go_enter Try.func121, Try.ntmps121
    go_wp2_with (at_builtin; refine Lib.wpList_append_run _ rfl _ _ _ _ rfl _ _ rfl rfl _ _ hrun ?_)
    all_goals (go_ret; exact ⟨rfl, rfl⟩)

theorem ins_walk_slices_Insert_impl_Slot_impl_Slot : InsWalk Try.prog 121 73 6 64 := by
  intro w v0 v1 n i fl vl h0 h1 hi hbig one0 one1 hne
  have hn63 : n + 1 ≤ maxLen := by simp only [maxLen]; omega
  rcases h1.2 with ⟨A, rfl, h⟩ | ⟨gv, cv, curv, rfl, hcv, hv, hv1, hv2, hv3, hvl⟩
  · cases h
  have hvs : vl.length = 6 := by rw [h1.1]
  rw [Nat.one_mul] at hvl
  by_cases hin : i = n
  · subst hin
    obtain ⟨v', w', k1, k2, k3, k4⟩ := ins_end_slices_Insert_impl_Slot_impl_Slot w v0 i gv cv curv fl vl hn63 hbig h0 hv hvl hvs one1
    refine k4.mono ?_
    rintro en w1 ⟨rfl, rfl⟩
    refine ⟨v', rfl, ?_, k2, k3⟩
    have : insC 6 i fl vl = fl ++ vl := by
      unfold insC
      rw [← h0.1, List.take_length, List.drop_length, List.append_nil]
    rw [this]; exact k1
  · rcases h0.2 with ⟨A, rfl, h⟩ | ⟨b, cap, cur, rfl, hcb, hb, hnc, hcm, hcs, htk⟩
    · omega
    · have hgb : gv ≠ b := fun h => hne b (ownB_of hcb) (by rw [h]; exact ownB_of hcv)
      have hlen : (insC 6 i fl vl).length = (n + 1) * 6 := by
        simp only [insC, List.length_append, List.length_take, List.length_drop, h0.1, hvs]
        omega
      by_cases hroom : n + 1 ≤ cap
      · obtain ⟨row, r1, r2, r3⟩ := ins_room_slices_Insert_impl_Slot_impl_Slot w b n cap i gv cv cur curv fl vl (by omega) hroom hcm hgb hb hcs htk h0.1 hv hvl hvs one0 one1
        refine r3.mono ?_
        rintro en w1 ⟨rfl, q1, q2, q3, q4⟩
        refine ⟨_, rfl, ⟨hlen, .inr ⟨b, cap, row, rfl, hcb, by rw [q4]; exact set_row_some hb, hroom, hcm, r1, r2⟩⟩, ⟨q1, q2, q3, by rw [q4]; simp, fun k hk hne => by rw [q4]; exact setRow_other w b k row (fun he => hne (by rw [he]; exact (ownB_of hcb).symm))⟩, fun g hg => .inr ?_⟩
        rw [ownB_of hcb] at hg ⊢
        exact hg
      · have hcn : cap = n := by omega
        subst hcn
        refine (ins_grow_slices_Insert_impl_Slot_impl_Slot w b cap i gv cv cur curv fl vl (by omega) hbig hb htk h0.1 hv hvl hvs one0 one1).mono ?_
        rintro en w1 ⟨G, row, g1, g2, rfl, q1, q2, q3, q4, q5, q6⟩
        refine ⟨_, rfl, ⟨hlen, .inr ⟨w.heap.size, G, row, rfl, by omega, by rw [q4]; simp, g1, g2, q5, q6⟩⟩, ⟨q1, q2, q3, by rw [q4]; simp, fun k hk _ => by rw [q4, Array.getElem?_push_lt hk, ← Array.getElem?_eq_getElem hk]⟩, fun g hg => .inl ?_⟩
        rw [ownB_of (by omega)] at hg
        cases hg; exact Nat.le_refl _
theorem sound_slices_Insert_impl_Slot_impl_Slot : Sound Try.prog 121 S_slices_Insert_impl_Slot_impl_Slot := sound_ins ins_walk_slices_Insert_impl_Slot_impl_Slot
theorem ok_slices_Insert_impl_Slot_impl_Slot : EnvOK Try.prog G_slices_Insert_impl_Slot_impl_Slot := envOK_sound ok_impl_PromiseSlot ⟨_, Try.func121, by kernel_rfl, by kernel_rfl⟩ sound_slices_Insert_impl_Slot_impl_Slot
theorem e_impl_Acceptor_promise (n : Nat) (x) : afun G_slices_Insert_impl_Slot_impl_Slot T BB 2 n Try.f35 a_impl_Acceptor_promise S_impl_Acceptor_promise.ps S_impl_Acceptor_promise.rs x = p_impl_Acceptor_promise n x := by kernel_rfl
theorem ok_impl_Acceptor_promise : EnvOK Try.prog G_impl_Acceptor_promise := envOK_cons hm hT ok_slices_Insert_impl_Slot_impl_Slot Try.func35 (by kernel_rfl) hBB fun x r hr => ⟨FU, (e_impl_Acceptor_promise FU x).trans hr⟩
theorem e_impl_quorum (n : Nat) (x) : afun G_impl_Acceptor_promise T BB 0 n Try.f36 a_impl_quorum S_impl_quorum.ps S_impl_quorum.rs x = p_impl_quorum n x := by kernel_rfl
theorem ok_impl_quorum : EnvOK Try.prog G_impl_quorum := envOK_cons hm hT ok_impl_Acceptor_promise Try.func36 (by kernel_rfl) hBB fun x r hr => ⟨FU, (e_impl_quorum FU x).trans hr⟩
theorem e_impl_PickValue_1 (n : Nat) (x) : afun G_impl_quorum T BB 0 n Try.f73 a_impl_PickValue_1 S_impl_PickValue_1.ps S_impl_PickValue_1.rs x = p_impl_PickValue_1 n x := by kernel_rfl
theorem ok_impl_PickValue_1 : EnvOK Try.prog G_impl_PickValue_1 := envOK_cons hm hT ok_impl_quorum Try.func73 (by kernel_rfl) hBB fun x r hr => ⟨FU, (e_impl_PickValue_1 FU x).trans hr⟩
theorem e_impl_PickValue (n : Nat) (x) : afun G_impl_PickValue_1 T BB 2 n Try.f37 a_impl_PickValue S_impl_PickValue.ps S_impl_PickValue.rs x = p_impl_PickValue n x := by kernel_rfl
theorem ok_impl_PickValue : EnvOK Try.prog G_impl_PickValue := envOK_cons hm hT ok_impl_PickValue_1 Try.func37 (by kernel_rfl) hBB fun x r hr => ⟨FU, (e_impl_PickValue FU x).trans hr⟩
theorem e_impl_AcceptSlot (n : Nat) (x) : afun G_impl_PickValue T BB 0 n Try.f77 a_impl_AcceptSlot S_impl_AcceptSlot.ps S_impl_AcceptSlot.rs x = p_impl_AcceptSlot n x := by kernel_rfl
theorem ok_impl_AcceptSlot : EnvOK Try.prog G_impl_AcceptSlot := envOK_cons hm hT ok_impl_PickValue Try.func77 (by kernel_rfl) hBB fun x r hr => ⟨FU, (e_impl_AcceptSlot FU x).trans hr⟩
theorem e_impl_Acceptor_accept (n : Nat) (x) : afun G_impl_AcceptSlot T BB 2 n Try.f38 a_impl_Acceptor_accept S_impl_Acceptor_accept.ps S_impl_Acceptor_accept.rs x = p_impl_Acceptor_accept n x := by kernel_rfl
theorem ok_impl_Acceptor_accept : EnvOK Try.prog G_impl_Acceptor_accept := envOK_cons hm hT ok_impl_AcceptSlot Try.func38 (by kernel_rfl) hBB fun x r hr => ⟨FU, (e_impl_Acceptor_accept FU x).trans hr⟩
theorem e_impl_RunBallot (n : Nat) (x) : afun G_impl_Acceptor_accept T BB 0 n Try.f8 a_impl_RunBallot S_impl_RunBallot.ps S_impl_RunBallot.rs x = p_impl_RunBallot n x := by kernel_rfl
theorem ok_impl_RunBallot : EnvOK Try.prog G_impl_RunBallot := envOK_cons hm hT ok_impl_Acceptor_accept Try.func8 (by kernel_rfl) hBB fun x r hr => ⟨FU, (e_impl_RunBallot FU x).trans hr⟩
theorem e_impl_slotsFor (n : Nat) (x) : afun G_impl_RunBallot T BB 0 n Try.f39 a_impl_slotsFor S_impl_slotsFor.ps S_impl_slotsFor.rs x = p_impl_slotsFor n x := by kernel_rfl
theorem ok_impl_slotsFor : EnvOK Try.prog G_impl_slotsFor := envOK_cons hm hT ok_impl_RunBallot Try.func39 (by kernel_rfl) hBB fun x r hr => ⟨FU, (e_impl_slotsFor FU x).trans hr⟩
theorem e_impl_SlotsFor (n : Nat) (x) : afun G_impl_slotsFor T BB 0 n Try.f10 a_impl_SlotsFor S_impl_SlotsFor.ps S_impl_SlotsFor.rs x = p_impl_SlotsFor n x := by kernel_rfl
theorem ok_impl_SlotsFor : EnvOK Try.prog G_impl_SlotsFor := envOK_cons hm hT ok_impl_slotsFor Try.func10 (by kernel_rfl) hBB fun x r hr => ⟨FU, (e_impl_SlotsFor FU x).trans hr⟩
theorem e_impl_size_impl_Slot (n : Nat) (x) : afun G_impl_SlotsFor T BB 0 n Try.f80 a_impl_size_impl_Slot S_impl_size_impl_Slot.ps S_impl_size_impl_Slot.rs x = p_impl_size_impl_Slot n x := by kernel_rfl
theorem ok_impl_size_impl_Slot : EnvOK Try.prog G_impl_size_impl_Slot := envOK_cons hm hT ok_impl_SlotsFor Try.func80 (by kernel_rfl) hBB fun x r hr => ⟨FU, (e_impl_size_impl_Slot FU x).trans hr⟩
theorem e_impl_slotsFault (n : Nat) (x) : afun G_impl_size_impl_Slot T BB 3 n Try.f41 a_impl_slotsFault S_impl_slotsFault.ps S_impl_slotsFault.rs x = p_impl_slotsFault n x := by kernel_rfl
theorem ok_impl_slotsFault : EnvOK Try.prog G_impl_slotsFault := envOK_cons hm hT ok_impl_size_impl_Slot Try.func41 (by kernel_rfl) hBB fun x r hr => ⟨FU, (e_impl_slotsFault FU x).trans hr⟩
theorem e_slices_Compact_impl_Vote_impl_Vote (n : Nat) (x) : afun G_impl_slotsFault T BB 0 n Try.f83 a_slices_Compact_impl_Vote_impl_Vote S_slices_Compact_impl_Vote_impl_Vote.ps S_slices_Compact_impl_Vote_impl_Vote.rs x = p_slices_Compact_impl_Vote_impl_Vote n x := by kernel_rfl
theorem ok_slices_Compact_impl_Vote_impl_Vote : EnvOK Try.prog G_slices_Compact_impl_Vote_impl_Vote := envOK_cons hm hT ok_impl_slotsFault Try.func83 (by kernel_rfl) hBB fun x r hr => ⟨FU, (e_slices_Compact_impl_Vote_impl_Vote FU x).trans hr⟩
def ren_slices_SortFunc_impl_Vote_impl_Vote : Go.Shelf.Ren := ⟨fun n => if n = 6 then 85 else if n = 15 then 126 else if n = 14 then 125 else if n = 28 then 171 else if n = 29 then 172 else if n = 20 then 163 else if n = 21 then 164 else if n = 22 then 165 else if n = 23 then 166 else if n = 24 then 167 else if n = 25 then 168 else if n = 26 then 169 else if n = 27 then 170 else if n = 46 then 191 else if n = 47 then 192 else if n = 48 then 193 else if n = 49 then 194 else if n = 50 then 195 else if n = 57 then 204 else n, fun n => if n = 22 then 71 else if n = 24 then 70 else if n = 25 then 136 else if n = 3 then 3 else if n = 39 then 169 else if n = 0 then 0 else if n = 53 then 216 else if n = 55 then 218 else if n = 4 then 4 else if n = 46 then 210 else if n = 45 then 209 else if n = 50 then 161 else if n = 5 then 5 else if n = 9 then 9 else if n = 66 then 239 else if n = 70 then 243 else if n = 76 then 251 else if n = 77 then 252 else n, fun n => n⟩
theorem lays_slices_SortFunc_impl_Vote_impl_Vote : Go.Proofs.SlLaysF0.n6 Try.prog ren_slices_SortFunc_impl_Vote_impl_Vote where
  mixed := by kernel_rfl
  f6 := ⟨"slices.SortFunc[[]loop.example/g00203/impl.Vote,loop.example/g00203/impl.Vote]", by decide, Try.func85.trans (congrArg some (by kernel_rfl))⟩
  f14 := ⟨"slices.pdqsortCmpFunc[loop.example/g00203/impl.Vote]", by decide, Try.func125.trans (congrArg some (by kernel_rfl))⟩
  f15 := Try.func126.trans (congrArg some (by kernel_rfl))
  f20 := ⟨"slices.insertionSortCmpFunc[loop.example/g00203/impl.Vote]", by decide, Try.func163.trans (congrArg some (by kernel_rfl))⟩
  f21 := ⟨"slices.heapSortCmpFunc[loop.example/g00203/impl.Vote]", by decide, Try.func164.trans (congrArg some (by kernel_rfl))⟩
  f22 := ⟨"slices.breakPatternsCmpFunc[loop.example/g00203/impl.Vote]", by decide, Try.func165.trans (congrArg some (by kernel_rfl))⟩
  f23 := ⟨"slices.choosePivotCmpFunc[loop.example/g00203/impl.Vote]", by decide, Try.func166.trans (congrArg some (by kernel_rfl))⟩
  f24 := ⟨"slices.reverseRangeCmpFunc[loop.example/g00203/impl.Vote]", by decide, Try.func167.trans (congrArg some (by kernel_rfl))⟩
  f25 := ⟨"slices.partialInsertionSortCmpFunc[loop.example/g00203/impl.Vote]", by decide, Try.func168.trans (congrArg some (by kernel_rfl))⟩
  f26 := ⟨"slices.partitionEqualCmpFunc[loop.example/g00203/impl.Vote]", by decide, Try.func169.trans (congrArg some (by kernel_rfl))⟩
  f27 := ⟨"slices.partitionCmpFunc[loop.example/g00203/impl.Vote]", by decide, Try.func170.trans (congrArg some (by kernel_rfl))⟩
  f28 := Try.func171.trans (congrArg some (by kernel_rfl))
  f29 := Try.func172.trans (congrArg some (by kernel_rfl))
  f46 := ⟨"slices.siftDownCmpFunc[loop.example/g00203/impl.Vote]", by decide, Try.func191.trans (congrArg some (by kernel_rfl))⟩
  f47 := Try.func192.trans (congrArg some (by kernel_rfl))
  f48 := Try.func193.trans (congrArg some (by kernel_rfl))
  f49 := ⟨"slices.medianAdjacentCmpFunc[loop.example/g00203/impl.Vote]", by decide, Try.func194.trans (congrArg some (by kernel_rfl))⟩
  f50 := ⟨"slices.medianCmpFunc[loop.example/g00203/impl.Vote]", by decide, Try.func195.trans (congrArg some (by kernel_rfl))⟩
  f57 := ⟨"slices.order2CmpFunc[loop.example/g00203/impl.Vote]", by decide, Try.func204.trans (congrArg some (by kernel_rfl))⟩
  t0 := Try.underlying0
  a0 := Try.isAgg0
  z0 := Try.sizeOf0
  v0 := Try.zeroValue0
  t3 := Try.underlying3
  a3 := Try.isAgg3
  z3 := Try.sizeOf3
  v3 := Try.zeroValue3
  t4 := Try.underlying4
  a4 := Try.isAgg4
  z4 := Try.sizeOf4
  v4 := Try.zeroValue4
  t5 := Try.underlying5
  a5 := Try.isAgg5
  z5 := Try.sizeOf5
  v5 := Try.zeroValue5
  t9 := Try.underlying9
  a9 := Try.isAgg9
  z9 := Try.sizeOf9
  v9 := Try.zeroValue9
  t22 := Try.underlying71
  a22 := Try.isAgg71
  z22 := Try.sizeOf71
  v22 := Try.zeroValue71
  t25 := Try.underlying136
  a25 := Try.isAgg136
  z25 := Try.sizeOf136
  v25 := Try.zeroValue136
  t39 := Try.underlying169
  a39 := Try.isAgg169
  z39 := Try.sizeOf169
  v39 := Try.zeroValue169
  t45 := Try.underlying209
  a45 := Try.isAgg209
  z45 := Try.sizeOf209
  v45 := Try.zeroValue209
  t46 := Try.underlying210
  a46 := Try.isAgg210
  z46 := Try.sizeOf210
  v46 := Try.zeroValue210
  t50 := Try.underlying161
  a50 := Try.isAgg161
  z50 := Try.sizeOf161
  v50 := Try.zeroValue161
  t53 := Try.underlying216
  a53 := Try.isAgg216
  z53 := Try.sizeOf216
  v53 := Try.zeroValue216
  t55 := Try.underlying218
  a55 := Try.isAgg218
  z55 := Try.sizeOf218
  v55 := Try.zeroValue218
  t66 := Try.underlying239
  a66 := Try.isAgg239
  z66 := Try.sizeOf239
  v66 := Try.zeroValue239
  t70 := Try.underlying243
  a70 := Try.isAgg243
  z70 := Try.sizeOf243
  v70 := Try.zeroValue243
  t76 := Try.underlying251
  a76 := Try.isAgg251
  z76 := Try.sizeOf251
  v76 := Try.zeroValue251
  t77 := Try.underlying252
  a77 := Try.isAgg252
  z77 := Try.sizeOf252
  v77 := Try.zeroValue252
set_option maxHeartbeats 1000000 in
theorem closure_slices_SortFunc_impl_Vote_impl_Vote (W : World) (x y) (hx : okVote x = true) (hy : okVote y = true) : Calls Try.prog 86 #[.agg (encVote x).toArray, .agg (encVote y).toArray] W fun e w' => e = .returned (.int .i64 (cfVote x y)) ∧ ∃ q os', w' = Go.Sort.grow (W.drewN q) os' := by
  unfold encVote cfVote
  go_enter Try.func86, Try.ntmps86
  go_wp2_with fail
  go_ret
  exact ⟨by rw [IntWalk.i64_left]; rfl, 0, _, by rw [alloc_eq_grow, alloc_eq_grow, grow_grow]; rfl⟩
theorem sound_slices_SortFunc_impl_Vote_impl_Vote : Sound Try.prog 85 S_slices_SortFunc_impl_Vote_impl_Vote := sound_sort lays_slices_SortFunc_impl_Vote_impl_Vote rfl hencVote (by decide) (fun _ => rfl) (fun x v hv => by simp [encVote] at hv; rcases hv with rfl | rfl <;> rfl) Try.isAgg70 Try.sizeOf70 swoVote (enters_of Try.func86 (by kernel_rfl) rfl) closure_slices_SortFunc_impl_Vote_impl_Vote
theorem ok_slices_SortFunc_impl_Vote_impl_Vote : EnvOK Try.prog G_slices_SortFunc_impl_Vote_impl_Vote := envOK_sound ok_slices_Compact_impl_Vote_impl_Vote ⟨_, Try.func85, by kernel_rfl, by kernel_rfl⟩ sound_slices_SortFunc_impl_Vote_impl_Vote
theorem e_impl_chosen (n : Nat) (x) : afun G_slices_SortFunc_impl_Vote_impl_Vote T BB 0 n Try.f42 a_impl_chosen S_impl_chosen.ps S_impl_chosen.rs x = p_impl_chosen n x := by kernel_rfl
theorem ok_impl_chosen : EnvOK Try.prog G_impl_chosen := envOK_cons hm hT ok_slices_SortFunc_impl_Vote_impl_Vote Try.func42 (by kernel_rfl) hBB fun x r hr => ⟨FU, (e_impl_chosen FU x).trans hr⟩
theorem e_impl_ChosenIn (n : Nat) (x) : afun G_impl_chosen T BB 0 n Try.f40 a_impl_ChosenIn S_impl_ChosenIn.ps S_impl_ChosenIn.rs x = p_impl_ChosenIn n x := by kernel_rfl
theorem ok_impl_ChosenIn : EnvOK Try.prog G_impl_ChosenIn := envOK_cons hm hT ok_impl_chosen Try.func40 (by kernel_rfl) hBB fun x r hr => ⟨FU, (e_impl_ChosenIn FU x).trans hr⟩
theorem e_impl_ChosenAt (n : Nat) (x) : afun G_impl_ChosenIn T BB 0 n Try.f11 a_impl_ChosenAt S_impl_ChosenAt.ps S_impl_ChosenAt.rs x = p_impl_ChosenAt n x := by kernel_rfl
theorem ok_impl_ChosenAt : EnvOK Try.prog G_impl_ChosenAt := envOK_cons hm hT ok_impl_ChosenIn Try.func11 (by kernel_rfl) hBB fun x r hr => ⟨FU, (e_impl_ChosenAt FU x).trans hr⟩
theorem e_impl_AgreeSlots (n : Nat) (x) : afun G_impl_ChosenAt T BB 3 n Try.f12 a_impl_AgreeSlots S_impl_AgreeSlots.ps S_impl_AgreeSlots.rs x = p_impl_AgreeSlots n x := by kernel_rfl
theorem ok_impl_AgreeSlots : EnvOK Try.prog G_impl_AgreeSlots := envOK_cons hm hT ok_impl_ChosenAt Try.func12 (by kernel_rfl) hBB fun x r hr => ⟨FU, (e_impl_AgreeSlots FU x).trans hr⟩
theorem e_laws_FnAgrees (n : Nat) (x) : afun G_impl_AgreeSlots T BB 0 n Try.f3 a_laws_FnAgrees S_laws_FnAgrees.ps S_laws_FnAgrees.rs x = p_laws_FnAgrees n x := by kernel_rfl
theorem ok_laws_FnAgrees : EnvOK Try.prog G_laws_FnAgrees := envOK_cons hm hT ok_impl_AgreeSlots Try.func3 (by kernel_rfl) hBB fun x r hr => ⟨FU, (e_laws_FnAgrees FU x).trans hr⟩
end Go.RvP
