/-
  Own text: a part of the abstract machine for this seat (Qem). No statement is proved here.
-/
import Derived.Test.YtcejklimolcjiaaGreatHem
import Derived.Test.YtcejklimolcjiaaGreatPw
set_option linter.unusedVariables false
set_option linter.unusedSimpArgs false
namespace Go.AM
attribute [local simp] ltB_self eqB_refl ix_nat
def okTCell (a : TCell) : Prop := okL (fun _ => True) a.Neighbors
def preTCell (a : TCell) : Prop := preL (fun _ => True) a.Neighbors
theorem wtTCell {x : List D} (h0 : WTs [.i .i64, .l [.i .i64]] x) : ∃ a : TCell, x = eTCell a ∧ preTCell a := by
  obtain ⟨n0, r0, rfl, w0, h1⟩ := h0.gi
  obtain ⟨y1, r1, rfl, l1, w1, h2⟩ := h1.gl
  obtain ⟨n1, rfl, p1⟩ := WTL_map (f := eI) (p := (fun _ => True)) (fun x h => by obtain ⟨n, r, rfl, w, h⟩ := h.gi; obtain rfl := h.gn; exact ⟨n, rfl, trivial⟩) w1
  obtain rfl := h2.gn
  exact ⟨⟨n0, n1⟩, rfl, ⟨by simpa using l1, p1⟩⟩
theorem psz_IntS : Sz lszIntS (okL (fun _ => True)) (preL (fun _ => True)) := sz_flat (fun _ _ => rfl)
theorem psz_Cell : Sz lszCell okTCell preTCell := by
  intro a left hp h0 h1
  unfold lszCell
  obtain ⟨r0, a0, b0, c0⟩ := psz_IntS a.Neighbors left hp h0 h1
  rcases c0 with ⟨c0, rfl⟩ | ⟨c0, d0, e0⟩
  · exact ⟨-1, by simp [a0, c0], by omega, .inl ⟨c0, rfl⟩⟩
  exact ⟨r0, by simp [a0, c0], b0, .inr ⟨c0, d0, e0⟩⟩
theorem psz_CellS : Sz lszCellS (okL okTCell) (preL preTCell) := sz_list psz_Cell (fun _ _ => rfl) (fun _ _ _ => rfl)
theorem pto_IntS : ∀ xs, okL (fun _ => True) xs → ltoIntS xs = some xs := to_list (0 : Int) (by decide) (t := fun a => some a) (fun _ _ => rfl) (fun _ => rfl) (fun _ _ _ => rfl)
theorem pto_Cell : ∀ a, okTCell a → ltoCell a = some a := fun a h => by simp [ltoCell, pto_IntS _ h]
theorem pto_CellS : ∀ xs, okL okTCell xs → ltoCellS xs = some xs := to_list (⟨0, []⟩ : TCell) (by decide) pto_Cell (fun _ => rfl) (fun _ _ _ => rfl)
theorem peq_IntS : ∀ xs, okL (fun _ => True) xs → leqIntS xs xs = some true := eq_list (e := fun x y => some (eqB x y)) (fun _ _ => by simp [eqB_refl]) (fun _ _ => rfl) (fun _ _ _ => rfl)
theorem peq_Cell : ∀ a, okTCell a → leqCell a a = some true := fun a h => by simp [leqCell, eqB_refl, strB, booB, peq_IntS _ h]
theorem peq_CellS : ∀ xs, okL okTCell xs → leqCellS xs xs = some true := eq_list peq_Cell (fun _ _ => rfl) (fun _ _ _ => rfl)
theorem pz_IntS : Mk lmarkIntS_z (okL (fun _ => True)) 1048576 := by
  refine mk_list (L := lmarkIntS_z_L1) (b := 1) (by decide) (by decide) (fun _ _ => rfl) (fun xs k => by simp [lmarkIntS_z_L1, ltB_self]) (fun xs k i x hx hi hl hok h0 h1 => ?_)
  · skip
    refine ⟨k + 1, ?_, by omega, by omega⟩
    have hw : ∀ n : Int, 0 ≤ n → n ≤ 9223372036854775807 → WR n = n := fun n h h' => WR_in (by omega)
    simp (disch := omega) only [lmarkIntS_z_L1, ltB_lt hi, ix_nat, hx, WR_succ (show i < 9223372036854775807 by omega), Option.bind_some, cond_true, hw, Int.add_assoc, Int.reduceAdd]
theorem pz_CellS : Mk lmarkCellS_z (okL okTCell) 1099512676352 := by
  refine mk_list (L := lmarkCellS_z_L1) (b := 1048577) (by decide) (by decide) (fun _ _ => rfl) (fun xs k => by simp [lmarkCellS_z_L1, ltB_self]) (fun xs k i x hx hi hl hok h0 h1 => ?_)
  · skip
    obtain ⟨k0, e0, l0, u0⟩ := pz_IntS x.Neighbors (k + 1) hok (by omega) (by omega)
    refine ⟨k0, ?_, by omega, by omega⟩
    have hw : ∀ n : Int, 0 ≤ n → n ≤ 9223372036854775807 → WR n = n := fun n h h' => WR_in (by omega)
    simp (disch := omega) only [lmarkCellS_z_L1, ltB_lt hi, ix_nat, hx, WR_succ (show i < 9223372036854775807 by omega), Option.bind_some, cond_true, hw, Int.add_assoc, Int.reduceAdd, e0]
def okTCellMap (a : TCellMap) : Prop := okL okTCell a.Cells
def preTCellMap (a : TCellMap) : Prop := preL preTCell a.Cells
theorem wtTCellMap {x : List D} (h0 : WTs [.l [.i .i64, .l [.i .i64]]] x) : ∃ a : TCellMap, x = eTCellMap a ∧ preTCellMap a := by
  obtain ⟨y0, r0, rfl, l0, w0, h1⟩ := h0.gl
  obtain ⟨n0, rfl, p0⟩ := WTL_map (f := eTCell) (p := preTCell) (fun _ h => wtTCell h) w0
  obtain rfl := h1.gn
  exact ⟨⟨n0⟩, rfl, ⟨by simpa using l0, p0⟩⟩
theorem psz_CellMap : Sz lszCellMap okTCellMap preTCellMap := by
  intro a left hp h0 h1
  unfold lszCellMap
  obtain ⟨r0, a0, b0, c0⟩ := psz_CellS a.Cells left hp h0 h1
  rcases c0 with ⟨c0, rfl⟩ | ⟨c0, d0, e0⟩
  · exact ⟨-1, by simp [a0, c0], by omega, .inl ⟨c0, rfl⟩⟩
  exact ⟨r0, by simp [a0, c0], b0, .inr ⟨c0, d0, e0⟩⟩
theorem pto_CellMap : ∀ a, okTCellMap a → ltoCellMap a = some a := fun a h => by simp [ltoCellMap, pto_CellS _ h]
theorem peq_CellMap : ∀ a, okTCellMap a → leqCellMap a a = some true := fun a h => by simp [leqCellMap, eqB_refl, strB, booB, peq_CellS _ h]
theorem pz_CellMap : Mk lmarkCellMap_z okTCellMap 1099512676352 := by
  intro a k h h0 h1
  obtain ⟨k0, e0, l0, u0⟩ := pz_CellS a.Cells k h (by omega) (by omega)
  exact ⟨k0, by simp only [lmarkCellMap_z, e0, Option.bind_some], by omega, by omega⟩
theorem wtTSubscriberID {x : List D} (h0 : WTs [.i .i64, .i .i64] x) : ∃ a : TSubscriberID, x = eTSubscriberID a ∧ (fun _ => True) a := by
  obtain ⟨n0, r0, rfl, w0, h1⟩ := h0.gi
  obtain ⟨n1, r1, rfl, w1, h2⟩ := h1.gi
  obtain rfl := h2.gn
  exact ⟨⟨n0, n1⟩, rfl, trivial⟩
theorem wtTUSIM {x : List D} (h0 : WTs [.i .i64, .i .i64, .i .i64, .i .i64] x) : ∃ a : TUSIM, x = eTUSIM a ∧ (fun _ => True) a := by
  obtain ⟨n0, r0, rfl, w0, h1⟩ := h0.gi
  obtain ⟨n1, r1, rfl, w1, h2⟩ := h1.gi
  obtain ⟨n2, r2, rfl, w2, h3⟩ := h2.gi
  obtain ⟨n3, r3, rfl, w3, h4⟩ := h3.gi
  obtain rfl := h4.gn
  exact ⟨⟨⟨n0, n1⟩, n2, n3⟩, rfl, trivial⟩
def okTNumberedPacket (a : TNumberedPacket) : Prop := okL (fun _ => True) a.Data
def preTNumberedPacket (a : TNumberedPacket) : Prop := preL okU8 a.Data
theorem wtTNumberedPacket {x : List D} (h0 : WTs [.i .i64, .l [.i .u8]] x) : ∃ a : TNumberedPacket, x = eTNumberedPacket a ∧ preTNumberedPacket a := by
  obtain ⟨n0, r0, rfl, w0, h1⟩ := h0.gi
  obtain ⟨y1, r1, rfl, l1, w1, h2⟩ := h1.gl
  obtain ⟨n1, rfl, p1⟩ := WTL_map (f := eU8) (p := okU8) (fun x h => by obtain ⟨n, r, rfl, w, h⟩ := h.gi; obtain rfl := h.gn; exact ⟨n, rfl, wf_u8 w⟩) w1
  obtain rfl := h2.gn
  exact ⟨⟨n0, n1⟩, rfl, ⟨by simpa using l1, p1⟩⟩
def okTPayload (a : TPayload) : Prop := okL (fun _ => True) a.Data
def preTPayload (a : TPayload) : Prop := preL okU8 a.Data
theorem wtTPayload {x : List D} (h0 : WTs [.l [.i .u8]] x) : ∃ a : TPayload, x = eTPayload a ∧ preTPayload a := by
  obtain ⟨y0, r0, rfl, l0, w0, h1⟩ := h0.gl
  obtain ⟨n0, rfl, p0⟩ := WTL_map (f := eU8) (p := okU8) (fun x h => by obtain ⟨n, r, rfl, w, h⟩ := h.gi; obtain rfl := h.gn; exact ⟨n, rfl, wf_u8 w⟩) w0
  obtain rfl := h1.gn
  exact ⟨⟨n0⟩, rfl, ⟨by simpa using l0, p0⟩⟩
def okTReceiveWindow (a : TReceiveWindow) : Prop := okL okTNumberedPacket a.Pending ∧ okL okTPayload a.Delivered
def preTReceiveWindow (a : TReceiveWindow) : Prop := preL preTNumberedPacket a.Pending ∧ preL preTPayload a.Delivered
theorem wtTReceiveWindow {x : List D} (h0 : WTs [.i .i64, .l [.i .i64, .l [.i .u8]], .l [.l [.i .u8]]] x) : ∃ a : TReceiveWindow, x = eTReceiveWindow a ∧ preTReceiveWindow a := by
  obtain ⟨n0, r0, rfl, w0, h1⟩ := h0.gi
  obtain ⟨y1, r1, rfl, l1, w1, h2⟩ := h1.gl
  obtain ⟨n1, rfl, p1⟩ := WTL_map (f := eTNumberedPacket) (p := preTNumberedPacket) (fun _ h => wtTNumberedPacket h) w1
  obtain ⟨y2, r2, rfl, l2, w2, h3⟩ := h2.gl
  obtain ⟨n2, rfl, p2⟩ := WTL_map (f := eTPayload) (p := preTPayload) (fun _ h => wtTPayload h) w2
  obtain rfl := h3.gn
  exact ⟨⟨n0, n1, n2⟩, rfl, ⟨⟨by simpa using l1, p1⟩, ⟨by simpa using l2, p2⟩⟩⟩
def okTDevice (a : TDevice) : Prop := okTReceiveWindow a.Receiver
def preTDevice (a : TDevice) : Prop := preTReceiveWindow a.Receiver
theorem wtTDevice {x : List D} (h0 : WTs [.i .i64, .i .i64, .i .i64, .i .i64, .i .i64, .i .i64, .i .i64, .i .i64, .i .i64, .b, .i .i64, .i .i64, .l [.i .i64, .l [.i .u8]], .l [.l [.i .u8]]] x) : ∃ a : TDevice, x = eTDevice a ∧ preTDevice a := by
  obtain ⟨n0, r0, rfl, w0, h1⟩ := h0.gi
  obtain ⟨n1, r1, rfl, w1, h2⟩ := h1.gi
  obtain ⟨n2, r2, rfl, w2, h3⟩ := h2.gi
  obtain ⟨n3, r3, rfl, w3, h4⟩ := h3.gi
  obtain ⟨n4, r4, rfl, w4, h5⟩ := h4.gi
  obtain ⟨n5, r5, rfl, w5, h6⟩ := h5.gi
  obtain ⟨n6, r6, rfl, w6, h7⟩ := h6.gi
  obtain ⟨n7, r7, rfl, w7, h8⟩ := h7.gi
  obtain ⟨n8, r8, rfl, w8, h9⟩ := h8.gi
  obtain ⟨n9, r9, rfl, h10⟩ := h9.gb
  obtain ⟨n10, r10, rfl, w10, h11⟩ := h10.gi
  obtain ⟨n11, r11, rfl, w11, h12⟩ := h11.gi
  obtain ⟨y12, r12, rfl, l12, w12, h13⟩ := h12.gl
  obtain ⟨n12, rfl, p12⟩ := WTL_map (f := eTNumberedPacket) (p := preTNumberedPacket) (fun _ h => wtTNumberedPacket h) w12
  obtain ⟨y13, r13, rfl, l13, w13, h14⟩ := h13.gl
  obtain ⟨n13, rfl, p13⟩ := WTL_map (f := eTPayload) (p := preTPayload) (fun _ h => wtTPayload h) w13
  obtain rfl := h14.gn
  exact ⟨⟨⟨⟨n0, n1⟩, n2, n3⟩, n4, n5, n6, n7, n8, n9, n10, ⟨n11, n12, n13⟩⟩, rfl, ⟨⟨by simpa using l12, p12⟩, ⟨by simpa using l13, p13⟩⟩⟩
theorem psz_ByteS : Sz lszByteS (okL (fun _ => True)) (preL okU8) := sz_flat (fun _ _ => rfl)
theorem psz_NumberedPacket : Sz lszNumberedPacket okTNumberedPacket preTNumberedPacket := by
  intro a left hp h0 h1
  unfold lszNumberedPacket
  obtain ⟨r0, a0, b0, c0⟩ := psz_ByteS a.Data left hp h0 h1
  rcases c0 with ⟨c0, rfl⟩ | ⟨c0, d0, e0⟩
  · exact ⟨-1, by simp [a0, c0], by omega, .inl ⟨c0, rfl⟩⟩
  exact ⟨r0, by simp [a0, c0], b0, .inr ⟨c0, d0, e0⟩⟩
theorem psz_NumberedPacketS : Sz lszNumberedPacketS (okL okTNumberedPacket) (preL preTNumberedPacket) := sz_list psz_NumberedPacket (fun _ _ => rfl) (fun _ _ _ => rfl)
theorem psz_Payload : Sz lszPayload okTPayload preTPayload := by
  intro a left hp h0 h1
  unfold lszPayload
  obtain ⟨r0, a0, b0, c0⟩ := psz_ByteS a.Data left hp h0 h1
  rcases c0 with ⟨c0, rfl⟩ | ⟨c0, d0, e0⟩
  · exact ⟨-1, by simp [a0, c0], by omega, .inl ⟨c0, rfl⟩⟩
  exact ⟨r0, by simp [a0, c0], b0, .inr ⟨c0, d0, e0⟩⟩
theorem psz_PayloadS : Sz lszPayloadS (okL okTPayload) (preL preTPayload) := sz_list psz_Payload (fun _ _ => rfl) (fun _ _ _ => rfl)
theorem psz_ReceiveWindow : Sz lszReceiveWindow okTReceiveWindow preTReceiveWindow := by
  intro a left hp h0 h1
  unfold lszReceiveWindow
  obtain ⟨r0, a0, b0, c0⟩ := psz_NumberedPacketS a.Pending left hp.1 h0 h1
  rcases c0 with ⟨c0, rfl⟩ | ⟨c0, d0, e0⟩
  · exact ⟨-1, by simp [a0, c0], by omega, .inl ⟨c0, rfl⟩⟩
  obtain ⟨r1, a1, b1, c1⟩ := psz_PayloadS a.Delivered r0 hp.2 d0 b0
  rcases c1 with ⟨c1, rfl⟩ | ⟨c1, d1, e1⟩
  · exact ⟨-1, by simp [a0, c0, a1, c1], by omega, .inl ⟨c1, rfl⟩⟩
  exact ⟨r1, by simp [a0, c0, a1, c1], b1, .inr ⟨c1, d1, e0, e1⟩⟩
theorem psz_Device : Sz lszDevice okTDevice preTDevice := by
  intro a left hp h0 h1
  unfold lszDevice
  obtain ⟨r0, a0, b0, c0⟩ := psz_ReceiveWindow a.Receiver left hp h0 h1
  rcases c0 with ⟨c0, rfl⟩ | ⟨c0, d0, e0⟩
  · exact ⟨-1, by simp [a0, c0], by omega, .inl ⟨c0, rfl⟩⟩
  exact ⟨r0, by simp [a0, c0], b0, .inr ⟨c0, d0, e0⟩⟩
theorem psz_DeviceS : Sz lszDeviceS (okL okTDevice) (preL preTDevice) := sz_list psz_Device (fun _ _ => rfl) (fun _ _ _ => rfl)
theorem pto_SubscriberID : ∀ a, (fun _ => True) a → ltoSubscriberID a = some a := fun a h => by simp [ltoSubscriberID]
theorem pto_USIM : ∀ a, (fun _ => True) a → ltoUSIM a = some a := fun a h => by simp [ltoUSIM, pto_SubscriberID _ trivial]
theorem pto_ByteS : ∀ xs, okL (fun _ => True) xs → ltoByteS xs = some xs := to_list (0 : Int) (by decide) (t := fun a => some a) (fun _ _ => rfl) (fun _ => rfl) (fun _ _ _ => rfl)
theorem pto_NumberedPacket : ∀ a, okTNumberedPacket a → ltoNumberedPacket a = some a := fun a h => by simp [ltoNumberedPacket, pto_ByteS _ h]
theorem pto_NumberedPacketS : ∀ xs, okL okTNumberedPacket xs → ltoNumberedPacketS xs = some xs := to_list (⟨0, []⟩ : TNumberedPacket) (by decide) pto_NumberedPacket (fun _ => rfl) (fun _ _ _ => rfl)
theorem pto_Payload : ∀ a, okTPayload a → ltoPayload a = some a := fun a h => by simp [ltoPayload, pto_ByteS _ h]
theorem pto_PayloadS : ∀ xs, okL okTPayload xs → ltoPayloadS xs = some xs := to_list (⟨[]⟩ : TPayload) (by decide) pto_Payload (fun _ => rfl) (fun _ _ _ => rfl)
theorem pto_ReceiveWindow : ∀ a, okTReceiveWindow a → ltoReceiveWindow a = some a := fun a h => by simp [ltoReceiveWindow, pto_NumberedPacketS _ h.1, pto_PayloadS _ h.2]
theorem pto_Device : ∀ a, okTDevice a → ltoDevice a = some a := fun a h => by simp [ltoDevice, pto_ReceiveWindow _ h, pto_USIM _ trivial]
theorem pto_DeviceS : ∀ xs, okL okTDevice xs → ltoDeviceS xs = some xs := to_list (⟨⟨⟨0, 0⟩, 0, 0⟩, 0, 0, 0, 0, 0, false, 0, ⟨0, [], []⟩⟩ : TDevice) (by decide) pto_Device (fun _ => rfl) (fun _ _ _ => rfl)
theorem peq_SubscriberID : ∀ a, (fun _ => True) a → leqSubscriberID a a = some true := fun a h => by simp [leqSubscriberID, eqB_refl, strB, booB]
theorem peq_USIM : ∀ a, (fun _ => True) a → leqUSIM a a = some true := fun a h => by simp [leqUSIM, eqB_refl, strB, booB, peq_SubscriberID _ trivial]
theorem peq_ByteS : ∀ xs, okL (fun _ => True) xs → leqByteS xs xs = some true := eq_list (e := fun x y => some (eqB x y)) (fun _ _ => by simp [eqB_refl]) (fun _ _ => rfl) (fun _ _ _ => rfl)
theorem peq_NumberedPacket : ∀ a, okTNumberedPacket a → leqNumberedPacket a a = some true := fun a h => by simp [leqNumberedPacket, eqB_refl, strB, booB, peq_ByteS _ h]
theorem peq_NumberedPacketS : ∀ xs, okL okTNumberedPacket xs → leqNumberedPacketS xs xs = some true := eq_list peq_NumberedPacket (fun _ _ => rfl) (fun _ _ _ => rfl)
theorem peq_Payload : ∀ a, okTPayload a → leqPayload a a = some true := fun a h => by simp [leqPayload, eqB_refl, strB, booB, peq_ByteS _ h]
theorem peq_PayloadS : ∀ xs, okL okTPayload xs → leqPayloadS xs xs = some true := eq_list peq_Payload (fun _ _ => rfl) (fun _ _ _ => rfl)
theorem peq_ReceiveWindow : ∀ a, okTReceiveWindow a → leqReceiveWindow a a = some true := fun a h => by simp [leqReceiveWindow, eqB_refl, strB, booB, peq_NumberedPacketS _ h.1, peq_PayloadS _ h.2]
theorem peq_Device : ∀ a, okTDevice a → leqDevice a a = some true := fun a h => by simp [leqDevice, eqB_refl, strB, booB, peq_ReceiveWindow _ h, peq_USIM _ trivial]
theorem peq_DeviceS : ∀ xs, okL okTDevice xs → leqDeviceS xs xs = some true := eq_list peq_Device (fun _ _ => rfl) (fun _ _ _ => rfl)
theorem pz_ByteS : Mk lmarkByteS_z (okL (fun _ => True)) 1048576 := by
  refine mk_list (L := lmarkByteS_z_L1) (b := 1) (by decide) (by decide) (fun _ _ => rfl) (fun xs k => by simp [lmarkByteS_z_L1, ltB_self]) (fun xs k i x hx hi hl hok h0 h1 => ?_)
  · skip
    refine ⟨k + 1, ?_, by omega, by omega⟩
    have hw : ∀ n : Int, 0 ≤ n → n ≤ 9223372036854775807 → WR n = n := fun n h h' => WR_in (by omega)
    simp (disch := omega) only [lmarkByteS_z_L1, ltB_lt hi, ix_nat, hx, WR_succ (show i < 9223372036854775807 by omega), Option.bind_some, cond_true, hw, Int.add_assoc, Int.reduceAdd]
theorem pz_NumberedPacketS : Mk lmarkNumberedPacketS_z (okL okTNumberedPacket) 1099512676352 := by
  refine mk_list (L := lmarkNumberedPacketS_z_L1) (b := 1048577) (by decide) (by decide) (fun _ _ => rfl) (fun xs k => by simp [lmarkNumberedPacketS_z_L1, ltB_self]) (fun xs k i x hx hi hl hok h0 h1 => ?_)
  · skip
    obtain ⟨k0, e0, l0, u0⟩ := pz_ByteS x.Data (k + 1) hok (by omega) (by omega)
    refine ⟨k0, ?_, by omega, by omega⟩
    have hw : ∀ n : Int, 0 ≤ n → n ≤ 9223372036854775807 → WR n = n := fun n h h' => WR_in (by omega)
    simp (disch := omega) only [lmarkNumberedPacketS_z_L1, ltB_lt hi, ix_nat, hx, WR_succ (show i < 9223372036854775807 by omega), Option.bind_some, cond_true, hw, Int.add_assoc, Int.reduceAdd, e0]
theorem pz_PayloadS : Mk lmarkPayloadS_z (okL okTPayload) 1099511627776 := by
  refine mk_list (L := lmarkPayloadS_z_L1) (b := 1048576) (by decide) (by decide) (fun _ _ => rfl) (fun xs k => by simp [lmarkPayloadS_z_L1, ltB_self]) (fun xs k i x hx hi hl hok h0 h1 => ?_)
  · skip
    obtain ⟨k0, e0, l0, u0⟩ := pz_ByteS x.Data (k) hok (by omega) (by omega)
    refine ⟨k0, ?_, by omega, by omega⟩
    have hw : ∀ n : Int, 0 ≤ n → n ≤ 9223372036854775807 → WR n = n := fun n h h' => WR_in (by omega)
    simp (disch := omega) only [lmarkPayloadS_z_L1, ltB_lt hi, ix_nat, hx, WR_succ (show i < 9223372036854775807 by omega), Option.bind_some, cond_true, hw, Int.add_assoc, Int.reduceAdd, e0]
theorem pz_DeviceS : Mk lmarkDeviceS_z (okL okTDevice) 2305844108737904640 := by
  refine mk_list (L := lmarkDeviceS_z_L1) (b := 2199024304140) (by decide) (by decide) (fun _ _ => rfl) (fun xs k => by simp [lmarkDeviceS_z_L1, ltB_self]) (fun xs k i x hx hi hl hok h0 h1 => ?_)
  · skip
    obtain ⟨k0, e0, l0, u0⟩ := pz_NumberedPacketS x.Receiver.Pending (k + 12) hok.1 (by omega) (by omega)
    obtain ⟨k1, e1, l1, u1⟩ := pz_PayloadS x.Receiver.Delivered (k0) hok.2 (by omega) (by omega)
    refine ⟨k1, ?_, by omega, by omega⟩
    have hw : ∀ n : Int, 0 ≤ n → n ≤ 9223372036854775807 → WR n = n := fun n h h' => WR_in (by omega)
    simp (disch := omega) only [lmarkDeviceS_z_L1, ltB_lt hi, ix_nat, hx, WR_succ (show i < 9223372036854775807 by omega), Option.bind_some, cond_true, hw, Int.add_assoc, Int.reduceAdd, e0, e1]
theorem wtTSubscriberRecord {x : List D} (h0 : WTs [.i .i64, .i .i64, .i .i64, .i .i64] x) : ∃ a : TSubscriberRecord, x = eTSubscriberRecord a ∧ (fun _ => True) a := by
  obtain ⟨n0, r0, rfl, w0, h1⟩ := h0.gi
  obtain ⟨n1, r1, rfl, w1, h2⟩ := h1.gi
  obtain ⟨n2, r2, rfl, w2, h3⟩ := h2.gi
  obtain ⟨n3, r3, rfl, w3, h4⟩ := h3.gi
  obtain rfl := h4.gn
  exact ⟨⟨⟨n0, n1⟩, n2, n3⟩, rfl, trivial⟩
def okTSubscription (a : TSubscription) : Prop := okL (fun _ => True) a.RoamingNetworks
def preTSubscription (a : TSubscription) : Prop := preL (fun _ => True) a.RoamingNetworks
theorem wtTSubscription {x : List D} (h0 : WTs [.i .i64, .i .i64, .i .i64, .l [.i .i64]] x) : ∃ a : TSubscription, x = eTSubscription a ∧ preTSubscription a := by
  obtain ⟨n0, r0, rfl, w0, h1⟩ := h0.gi
  obtain ⟨n1, r1, rfl, w1, h2⟩ := h1.gi
  obtain ⟨n2, r2, rfl, w2, h3⟩ := h2.gi
  obtain ⟨y3, r3, rfl, l3, w3, h4⟩ := h3.gl
  obtain ⟨n3, rfl, p3⟩ := WTL_map (f := eI) (p := (fun _ => True)) (fun x h => by obtain ⟨n, r, rfl, w, h⟩ := h.gi; obtain rfl := h.gn; exact ⟨n, rfl, trivial⟩) w3
  obtain rfl := h4.gn
  exact ⟨⟨n0, n1, n2, n3⟩, rfl, ⟨by simpa using l3, p3⟩⟩
theorem wtTAuthVector {x : List D} (h0 : WTs [.i .i64, .i .i64, .i .i64, .i .i64, .i .i64] x) : ∃ a : TAuthVector, x = eTAuthVector a ∧ (fun _ => True) a := by
  obtain ⟨n0, r0, rfl, w0, h1⟩ := h0.gi
  obtain ⟨n1, r1, rfl, w1, h2⟩ := h1.gi
  obtain ⟨n2, r2, rfl, w2, h3⟩ := h2.gi
  obtain ⟨n3, r3, rfl, w3, h4⟩ := h3.gi
  obtain ⟨n4, r4, rfl, w4, h5⟩ := h4.gi
  obtain rfl := h5.gn
  exact ⟨⟨n0, n1, n2, n3, n4⟩, rfl, trivial⟩
theorem wtTPagingState {x : List D} (h0 : WTs [.i .i64, .i .i64, .i .i64] x) : ∃ a : TPagingState, x = eTPagingState a ∧ (fun _ => True) a := by
  obtain ⟨n0, r0, rfl, w0, h1⟩ := h0.gi
  obtain ⟨n1, r1, rfl, w1, h2⟩ := h1.gi
  obtain ⟨n2, r2, rfl, w2, h3⟩ := h2.gi
  obtain rfl := h3.gn
  exact ⟨⟨n0, n1, n2⟩, rfl, trivial⟩
def okTSendWindow (a : TSendWindow) : Prop := okL okTNumberedPacket a.Unacked
def preTSendWindow (a : TSendWindow) : Prop := preL preTNumberedPacket a.Unacked
theorem wtTSendWindow {x : List D} (h0 : WTs [.i .i64, .l [.i .i64, .l [.i .u8]]] x) : ∃ a : TSendWindow, x = eTSendWindow a ∧ preTSendWindow a := by
  obtain ⟨n0, r0, rfl, w0, h1⟩ := h0.gi
  obtain ⟨y1, r1, rfl, l1, w1, h2⟩ := h1.gl
  obtain ⟨n1, rfl, p1⟩ := WTL_map (f := eTNumberedPacket) (p := preTNumberedPacket) (fun _ h => wtTNumberedPacket h) w1
  obtain rfl := h2.gn
  exact ⟨⟨n0, n1⟩, rfl, ⟨by simpa using l1, p1⟩⟩
theorem wtTQuota {x : List D} (h0 : WTs [.i .i64, .i .i64, .i .i64] x) : ∃ a : TQuota, x = eTQuota a ∧ (fun _ => True) a := by
  obtain ⟨n0, r0, rfl, w0, h1⟩ := h0.gi
  obtain ⟨n1, r1, rfl, w1, h2⟩ := h1.gi
  obtain ⟨n2, r2, rfl, w2, h3⟩ := h2.gi
  obtain rfl := h3.gn
  exact ⟨⟨n0, n1, n2⟩, rfl, trivial⟩
def okTSession (a : TSession) : Prop := okTSubscription a.Plan ∧ okL okTPayload a.Submitted ∧ okTSendWindow a.Window
def preTSession (a : TSession) : Prop := preTSubscription a.Plan ∧ preL preTPayload a.Submitted ∧ preTSendWindow a.Window
theorem wtTSession {x : List D} (h0 : WTs [.i .i64, .i .i64, .i .i64, .i .i64, .i .i64, .i .i64, .i .i64, .l [.i .i64], .i .i64, .i .i64, .i .i64, .i .i64, .i .i64, .i .i64, .i .i64, .i .i64, .i .i64, .i .i64, .i .i64, .i .i64, .i .i64, .i .i64, .i .i64, .l [.l [.i .u8]], .i .i64, .l [.i .i64, .l [.i .u8]], .i .i64, .i .i64, .i .i64, .i .i64] x) : ∃ a : TSession, x = eTSession a ∧ preTSession a := by
  obtain ⟨n0, r0, rfl, w0, h1⟩ := h0.gi
  obtain ⟨n1, r1, rfl, w1, h2⟩ := h1.gi
  obtain ⟨n2, r2, rfl, w2, h3⟩ := h2.gi
  obtain ⟨n3, r3, rfl, w3, h4⟩ := h3.gi
  obtain ⟨n4, r4, rfl, w4, h5⟩ := h4.gi
  obtain ⟨n5, r5, rfl, w5, h6⟩ := h5.gi
  obtain ⟨n6, r6, rfl, w6, h7⟩ := h6.gi
  obtain ⟨y7, r7, rfl, l7, w7, h8⟩ := h7.gl
  obtain ⟨n7, rfl, p7⟩ := WTL_map (f := eI) (p := (fun _ => True)) (fun x h => by obtain ⟨n, r, rfl, w, h⟩ := h.gi; obtain rfl := h.gn; exact ⟨n, rfl, trivial⟩) w7
  obtain ⟨n8, r8, rfl, w8, h9⟩ := h8.gi
  obtain ⟨n9, r9, rfl, w9, h10⟩ := h9.gi
  obtain ⟨n10, r10, rfl, w10, h11⟩ := h10.gi
  obtain ⟨n11, r11, rfl, w11, h12⟩ := h11.gi
  obtain ⟨n12, r12, rfl, w12, h13⟩ := h12.gi
  obtain ⟨n13, r13, rfl, w13, h14⟩ := h13.gi
  obtain ⟨n14, r14, rfl, w14, h15⟩ := h14.gi
  obtain ⟨n15, r15, rfl, w15, h16⟩ := h15.gi
  obtain ⟨n16, r16, rfl, w16, h17⟩ := h16.gi
  obtain ⟨n17, r17, rfl, w17, h18⟩ := h17.gi
  obtain ⟨n18, r18, rfl, w18, h19⟩ := h18.gi
  obtain ⟨n19, r19, rfl, w19, h20⟩ := h19.gi
  obtain ⟨n20, r20, rfl, w20, h21⟩ := h20.gi
  obtain ⟨n21, r21, rfl, w21, h22⟩ := h21.gi
  obtain ⟨n22, r22, rfl, w22, h23⟩ := h22.gi
  obtain ⟨y23, r23, rfl, l23, w23, h24⟩ := h23.gl
  obtain ⟨n23, rfl, p23⟩ := WTL_map (f := eTPayload) (p := preTPayload) (fun _ h => wtTPayload h) w23
  obtain ⟨n24, r24, rfl, w24, h25⟩ := h24.gi
  obtain ⟨y25, r25, rfl, l25, w25, h26⟩ := h25.gl
  obtain ⟨n25, rfl, p25⟩ := WTL_map (f := eTNumberedPacket) (p := preTNumberedPacket) (fun _ h => wtTNumberedPacket h) w25
  obtain ⟨n26, r26, rfl, w26, h27⟩ := h26.gi
  obtain ⟨n27, r27, rfl, w27, h28⟩ := h27.gi
  obtain ⟨n28, r28, rfl, w28, h29⟩ := h28.gi
  obtain ⟨n29, r29, rfl, w29, h30⟩ := h29.gi
  obtain rfl := h30.gn
  exact ⟨⟨⟨⟨n0, n1⟩, n2, n3⟩, ⟨n4, n5, n6, n7⟩, n8, ⟨n9, n10, n11, n12, n13⟩, n14, n15, n16, n17, n18, n19, ⟨n20, n21, n22⟩, n23, ⟨n24, n25⟩, n26, ⟨n27, n28, n29⟩⟩, rfl, ⟨⟨by simpa using l7, p7⟩, ⟨by simpa using l23, p23⟩, ⟨by simpa using l25, p25⟩⟩⟩
theorem psz_Subscription : Sz lszSubscription okTSubscription preTSubscription := by
  intro a left hp h0 h1
  unfold lszSubscription
  obtain ⟨r0, a0, b0, c0⟩ := psz_IntS a.RoamingNetworks left hp h0 h1
  rcases c0 with ⟨c0, rfl⟩ | ⟨c0, d0, e0⟩
  · exact ⟨-1, by simp [a0, c0], by omega, .inl ⟨c0, rfl⟩⟩
  exact ⟨r0, by simp [a0, c0], b0, .inr ⟨c0, d0, e0⟩⟩
theorem psz_SendWindow : Sz lszSendWindow okTSendWindow preTSendWindow := by
  intro a left hp h0 h1
  unfold lszSendWindow
  obtain ⟨r0, a0, b0, c0⟩ := psz_NumberedPacketS a.Unacked left hp h0 h1
  rcases c0 with ⟨c0, rfl⟩ | ⟨c0, d0, e0⟩
  · exact ⟨-1, by simp [a0, c0], by omega, .inl ⟨c0, rfl⟩⟩
  exact ⟨r0, by simp [a0, c0], b0, .inr ⟨c0, d0, e0⟩⟩
theorem psz_Session : Sz lszSession okTSession preTSession := by
  intro a left hp h0 h1
  unfold lszSession
  obtain ⟨r0, a0, b0, c0⟩ := psz_Subscription a.Plan left hp.1 h0 h1
  rcases c0 with ⟨c0, rfl⟩ | ⟨c0, d0, e0⟩
  · exact ⟨-1, by simp [a0, c0], by omega, .inl ⟨c0, rfl⟩⟩
  obtain ⟨r1, a1, b1, c1⟩ := psz_PayloadS a.Submitted r0 hp.2.1 d0 b0
  rcases c1 with ⟨c1, rfl⟩ | ⟨c1, d1, e1⟩
  · exact ⟨-1, by simp [a0, c0, a1, c1], by omega, .inl ⟨c1, rfl⟩⟩
  obtain ⟨r2, a2, b2, c2⟩ := psz_SendWindow a.Window r1 hp.2.2 d1 b1
  rcases c2 with ⟨c2, rfl⟩ | ⟨c2, d2, e2⟩
  · exact ⟨-1, by simp [a0, c0, a1, c1, a2, c2], by omega, .inl ⟨c2, rfl⟩⟩
  exact ⟨r2, by simp [a0, c0, a1, c1, a2, c2], b2, .inr ⟨c2, d2, e0, e1, e2⟩⟩
theorem psz_SessionS : Sz lszSessionS (okL okTSession) (preL preTSession) := sz_list psz_Session (fun _ _ => rfl) (fun _ _ _ => rfl)
theorem pto_SubscriberRecord : ∀ a, (fun _ => True) a → ltoSubscriberRecord a = some a := fun a h => by simp [ltoSubscriberRecord, pto_SubscriberID _ trivial]
theorem pto_Subscription : ∀ a, okTSubscription a → ltoSubscription a = some a := fun a h => by simp [ltoSubscription, pto_IntS _ h]
theorem pto_AuthVector : ∀ a, (fun _ => True) a → ltoAuthVector a = some a := fun a h => by simp [ltoAuthVector]
theorem pto_PagingState : ∀ a, (fun _ => True) a → ltoPagingState a = some a := fun a h => by simp [ltoPagingState]
theorem pto_SendWindow : ∀ a, okTSendWindow a → ltoSendWindow a = some a := fun a h => by simp [ltoSendWindow, pto_NumberedPacketS _ h]
theorem pto_Quota : ∀ a, (fun _ => True) a → ltoQuota a = some a := fun a h => by simp [ltoQuota]
theorem pto_Session : ∀ a, okTSession a → ltoSession a = some a := fun a h => by simp [ltoSession, pto_Subscription _ h.1, pto_PayloadS _ h.2.1, pto_SendWindow _ h.2.2, pto_SubscriberRecord _ trivial, pto_AuthVector _ trivial, pto_PagingState _ trivial, pto_Quota _ trivial]
theorem pto_SessionS : ∀ xs, okL okTSession xs → ltoSessionS xs = some xs := to_list (⟨⟨⟨0, 0⟩, 0, 0⟩, ⟨0, 0, 0, []⟩, 0, ⟨0, 0, 0, 0, 0⟩, 0, 0, 0, 0, 0, 0, ⟨0, 0, 0⟩, [], ⟨0, []⟩, 0, ⟨0, 0, 0⟩⟩ : TSession) (by decide) pto_Session (fun _ => rfl) (fun _ _ _ => rfl)
theorem peq_SubscriberRecord : ∀ a, (fun _ => True) a → leqSubscriberRecord a a = some true := fun a h => by simp [leqSubscriberRecord, eqB_refl, strB, booB, peq_SubscriberID _ trivial]
theorem peq_Subscription : ∀ a, okTSubscription a → leqSubscription a a = some true := fun a h => by simp [leqSubscription, eqB_refl, strB, booB, peq_IntS _ h]
theorem peq_AuthVector : ∀ a, (fun _ => True) a → leqAuthVector a a = some true := fun a h => by simp [leqAuthVector, eqB_refl, strB, booB]
theorem peq_PagingState : ∀ a, (fun _ => True) a → leqPagingState a a = some true := fun a h => by simp [leqPagingState, eqB_refl, strB, booB]
theorem peq_SendWindow : ∀ a, okTSendWindow a → leqSendWindow a a = some true := fun a h => by simp [leqSendWindow, eqB_refl, strB, booB, peq_NumberedPacketS _ h]
theorem peq_Quota : ∀ a, (fun _ => True) a → leqQuota a a = some true := fun a h => by simp [leqQuota, eqB_refl, strB, booB]
theorem peq_Session : ∀ a, okTSession a → leqSession a a = some true := fun a h => by simp [leqSession, eqB_refl, strB, booB, peq_Subscription _ h.1, peq_PayloadS _ h.2.1, peq_SendWindow _ h.2.2, peq_SubscriberRecord _ trivial, peq_AuthVector _ trivial, peq_PagingState _ trivial, peq_Quota _ trivial]
theorem peq_SessionS : ∀ xs, okL okTSession xs → leqSessionS xs xs = some true := eq_list peq_Session (fun _ _ => rfl) (fun _ _ _ => rfl)
theorem pz_SessionS : Mk lmarkSessionS_z (okL okTSession) 2305845208265261056 := by
  refine mk_list (L := lmarkSessionS_z_L1) (b := 2199025352731) (by decide) (by decide) (fun _ _ => rfl) (fun xs k => by simp [lmarkSessionS_z_L1, ltB_self]) (fun xs k i x hx hi hl hok h0 h1 => ?_)
  · skip
    obtain ⟨k0, e0, l0, u0⟩ := pz_IntS x.Plan.RoamingNetworks (k + 7) hok.1 (by omega) (by omega)
    obtain ⟨k1, e1, l1, u1⟩ := pz_PayloadS x.Submitted (k0 + 15) hok.2.1 (by omega) (by omega)
    obtain ⟨k2, e2, l2, u2⟩ := pz_NumberedPacketS x.Window.Unacked (k1 + 1) hok.2.2 (by omega) (by omega)
    refine ⟨k2 + 4, ?_, by omega, by omega⟩
    have hw : ∀ n : Int, 0 ≤ n → n ≤ 9223372036854775807 → WR n = n := fun n h h' => WR_in (by omega)
    simp (disch := omega) only [lmarkSessionS_z_L1, ltB_lt hi, ix_nat, hx, WR_succ (show i < 9223372036854775807 by omega), Option.bind_some, cond_true, hw, Int.add_assoc, Int.reduceAdd, e0, e1, e2]
theorem wtTReservation {x : List D} (h0 : WTs [.i .i64, .i .i64] x) : ∃ a : TReservation, x = eTReservation a ∧ (fun _ => True) a := by
  obtain ⟨n0, r0, rfl, w0, h1⟩ := h0.gi
  obtain ⟨n1, r1, rfl, w1, h2⟩ := h1.gi
  obtain rfl := h2.gn
  exact ⟨⟨n0, n1⟩, rfl, trivial⟩
def okTAccount (a : TAccount) : Prop := okL (fun _ => True) a.Reservations
def preTAccount (a : TAccount) : Prop := preL (fun _ => True) a.Reservations
theorem wtTAccount {x : List D} (h0 : WTs [.i .i64, .i .i64, .i .i64, .l [.i .i64, .i .i64]] x) : ∃ a : TAccount, x = eTAccount a ∧ preTAccount a := by
  obtain ⟨n0, r0, rfl, w0, h1⟩ := h0.gi
  obtain ⟨n1, r1, rfl, w1, h2⟩ := h1.gi
  obtain ⟨n2, r2, rfl, w2, h3⟩ := h2.gi
  obtain ⟨y3, r3, rfl, l3, w3, h4⟩ := h3.gl
  obtain ⟨n3, rfl, p3⟩ := WTL_map (f := eTReservation) (p := (fun _ => True)) (fun _ h => wtTReservation h) w3
  obtain rfl := h4.gn
  exact ⟨⟨n0, n1, n2, n3⟩, rfl, ⟨by simpa using l3, p3⟩⟩
theorem psz_ReservationS : Sz lszReservationS (okL (fun _ => True)) (preL (fun _ => True)) := sz_flat (fun _ _ => rfl)
theorem psz_Account : Sz lszAccount okTAccount preTAccount := by
  intro a left hp h0 h1
  unfold lszAccount
  obtain ⟨r0, a0, b0, c0⟩ := psz_ReservationS a.Reservations left hp h0 h1
  rcases c0 with ⟨c0, rfl⟩ | ⟨c0, d0, e0⟩
  · exact ⟨-1, by simp [a0, c0], by omega, .inl ⟨c0, rfl⟩⟩
  exact ⟨r0, by simp [a0, c0], b0, .inr ⟨c0, d0, e0⟩⟩
theorem psz_AccountS : Sz lszAccountS (okL okTAccount) (preL preTAccount) := sz_list psz_Account (fun _ _ => rfl) (fun _ _ _ => rfl)
theorem pto_Reservation : ∀ a, (fun _ => True) a → ltoReservation a = some a := fun a h => by simp [ltoReservation]
theorem pto_ReservationS : ∀ xs, okL (fun _ => True) xs → ltoReservationS xs = some xs := to_list (⟨0, 0⟩ : TReservation) (by decide) pto_Reservation (fun _ => rfl) (fun _ _ _ => rfl)
theorem pto_Account : ∀ a, okTAccount a → ltoAccount a = some a := fun a h => by simp [ltoAccount, pto_ReservationS _ h]
theorem pto_AccountS : ∀ xs, okL okTAccount xs → ltoAccountS xs = some xs := to_list (⟨0, 0, 0, []⟩ : TAccount) (by decide) pto_Account (fun _ => rfl) (fun _ _ _ => rfl)
theorem peq_Reservation : ∀ a, (fun _ => True) a → leqReservation a a = some true := fun a h => by simp [leqReservation, eqB_refl, strB, booB]
theorem peq_ReservationS : ∀ xs, okL (fun _ => True) xs → leqReservationS xs xs = some true := eq_list peq_Reservation (fun _ _ => rfl) (fun _ _ _ => rfl)
theorem peq_Account : ∀ a, okTAccount a → leqAccount a a = some true := fun a h => by simp [leqAccount, eqB_refl, strB, booB, peq_ReservationS _ h]
theorem peq_AccountS : ∀ xs, okL okTAccount xs → leqAccountS xs xs = some true := eq_list peq_Account (fun _ _ => rfl) (fun _ _ _ => rfl)
theorem pz_ReservationS : Mk lmarkReservationS_z (okL (fun _ => True)) 2097152 := by
  refine mk_list (L := lmarkReservationS_z_L1) (b := 2) (by decide) (by decide) (fun _ _ => rfl) (fun xs k => by simp [lmarkReservationS_z_L1, ltB_self]) (fun xs k i x hx hi hl hok h0 h1 => ?_)
  · skip
    refine ⟨k + 2, ?_, by omega, by omega⟩
    have hw : ∀ n : Int, 0 ≤ n → n ≤ 9223372036854775807 → WR n = n := fun n h h' => WR_in (by omega)
    simp (disch := omega) only [lmarkReservationS_z_L1, ltB_lt hi, ix_nat, hx, WR_succ (show i < 9223372036854775807 by omega), Option.bind_some, cond_true, hw, Int.add_assoc, Int.reduceAdd]
theorem pz_AccountS : Mk lmarkAccountS_z (okL okTAccount) 2199026401280 := by
  refine mk_list (L := lmarkAccountS_z_L1) (b := 2097155) (by decide) (by decide) (fun _ _ => rfl) (fun xs k => by simp [lmarkAccountS_z_L1, ltB_self]) (fun xs k i x hx hi hl hok h0 h1 => ?_)
  · skip
    obtain ⟨k0, e0, l0, u0⟩ := pz_ReservationS x.Reservations (k + 3) hok (by omega) (by omega)
    refine ⟨k0, ?_, by omega, by omega⟩
    have hw : ∀ n : Int, 0 ≤ n → n ≤ 9223372036854775807 → WR n = n := fun n h h' => WR_in (by omega)
    simp (disch := omega) only [lmarkAccountS_z_L1, ltB_lt hi, ix_nat, hx, WR_succ (show i < 9223372036854775807 by omega), Option.bind_some, cond_true, hw, Int.add_assoc, Int.reduceAdd, e0]
theorem wtTSignal {x : List D} (h0 : WTs [.i .i64, .i .i64, .i .i64, .i .i64, .i .i64, .i .i64, .i .i64, .i .i64, .i .i64, .i .i64, .i .i64] x) : ∃ a : TSignal, x = eTSignal a ∧ (fun _ => True) a := by
  obtain ⟨n0, r0, rfl, w0, h1⟩ := h0.gi
  obtain ⟨n1, r1, rfl, w1, h2⟩ := h1.gi
  obtain ⟨n2, r2, rfl, w2, h3⟩ := h2.gi
  obtain ⟨n3, r3, rfl, w3, h4⟩ := h3.gi
  obtain ⟨n4, r4, rfl, w4, h5⟩ := h4.gi
  obtain ⟨n5, r5, rfl, w5, h6⟩ := h5.gi
  obtain ⟨n6, r6, rfl, w6, h7⟩ := h6.gi
  obtain ⟨n7, r7, rfl, w7, h8⟩ := h7.gi
  obtain ⟨n8, r8, rfl, w8, h9⟩ := h8.gi
  obtain ⟨n9, r9, rfl, w9, h10⟩ := h9.gi
  obtain ⟨n10, r10, rfl, w10, h11⟩ := h10.gi
  obtain rfl := h11.gn
  exact ⟨⟨n0, n1, n2, n3, n4, ⟨n5, n6, n7, n8, n9⟩, n10⟩, rfl, trivial⟩
def okTSecuredMessage (a : TSecuredMessage) : Prop := okL (fun _ => True) a.Data
def preTSecuredMessage (a : TSecuredMessage) : Prop := preL okU8 a.Data
theorem wtTSecuredMessage {x : List D} (h0 : WTs [.i .i64, .i .i64, .l [.i .u8], .i .i64] x) : ∃ a : TSecuredMessage, x = eTSecuredMessage a ∧ preTSecuredMessage a := by
  obtain ⟨n0, r0, rfl, w0, h1⟩ := h0.gi
  obtain ⟨n1, r1, rfl, w1, h2⟩ := h1.gi
  obtain ⟨y2, r2, rfl, l2, w2, h3⟩ := h2.gl
  obtain ⟨n2, rfl, p2⟩ := WTL_map (f := eU8) (p := okU8) (fun x h => by obtain ⟨n, r, rfl, w, h⟩ := h.gi; obtain rfl := h.gn; exact ⟨n, rfl, wf_u8 w⟩) w2
  obtain ⟨n3, r3, rfl, w3, h4⟩ := h3.gi
  obtain rfl := h4.gn
  exact ⟨⟨n0, n1, n2, n3⟩, rfl, ⟨by simpa using l2, p2⟩⟩
def okTRadioPacket (a : TRadioPacket) : Prop := okTSecuredMessage a.Message
def preTRadioPacket (a : TRadioPacket) : Prop := preTSecuredMessage a.Message
theorem wtTRadioPacket {x : List D} (h0 : WTs [.i .i64, .i .i64, .i .i64, .i .i64, .l [.i .u8], .i .i64] x) : ∃ a : TRadioPacket, x = eTRadioPacket a ∧ preTRadioPacket a := by
  obtain ⟨n0, r0, rfl, w0, h1⟩ := h0.gi
  obtain ⟨n1, r1, rfl, w1, h2⟩ := h1.gi
  obtain ⟨n2, r2, rfl, w2, h3⟩ := h2.gi
  obtain ⟨n3, r3, rfl, w3, h4⟩ := h3.gi
  obtain ⟨y4, r4, rfl, l4, w4, h5⟩ := h4.gl
  obtain ⟨n4, rfl, p4⟩ := WTL_map (f := eU8) (p := okU8) (fun x h => by obtain ⟨n, r, rfl, w, h⟩ := h.gi; obtain rfl := h.gn; exact ⟨n, rfl, wf_u8 w⟩) w4
  obtain ⟨n5, r5, rfl, w5, h6⟩ := h5.gi
  obtain rfl := h6.gn
  exact ⟨⟨n0, n1, ⟨n2, n3, n4, n5⟩⟩, rfl, ⟨by simpa using l4, p4⟩⟩
def okTFlight (a : TFlight) : Prop := okTRadioPacket a.Radio
def preTFlight (a : TFlight) : Prop := preTRadioPacket a.Radio
theorem wtTFlight {x : List D} (h0 : WTs [.i .i64, .b, .b, .i .i64, .i .i64, .i .i64, .i .i64, .i .i64, .i .i64, .i .i64, .i .i64, .i .i64, .i .i64, .i .i64, .i .i64, .i .i64, .i .i64, .i .i64, .i .i64, .l [.i .u8], .i .i64] x) : ∃ a : TFlight, x = eTFlight a ∧ preTFlight a := by
  obtain ⟨n0, r0, rfl, w0, h1⟩ := h0.gi
  obtain ⟨n1, r1, rfl, h2⟩ := h1.gb
  obtain ⟨n2, r2, rfl, h3⟩ := h2.gb
  obtain ⟨n3, r3, rfl, w3, h4⟩ := h3.gi
  obtain ⟨n4, r4, rfl, w4, h5⟩ := h4.gi
  obtain ⟨n5, r5, rfl, w5, h6⟩ := h5.gi
  obtain ⟨n6, r6, rfl, w6, h7⟩ := h6.gi
  obtain ⟨n7, r7, rfl, w7, h8⟩ := h7.gi
  obtain ⟨n8, r8, rfl, w8, h9⟩ := h8.gi
  obtain ⟨n9, r9, rfl, w9, h10⟩ := h9.gi
  obtain ⟨n10, r10, rfl, w10, h11⟩ := h10.gi
  obtain ⟨n11, r11, rfl, w11, h12⟩ := h11.gi
  obtain ⟨n12, r12, rfl, w12, h13⟩ := h12.gi
  obtain ⟨n13, r13, rfl, w13, h14⟩ := h13.gi
  obtain ⟨n14, r14, rfl, w14, h15⟩ := h14.gi
  obtain ⟨n15, r15, rfl, w15, h16⟩ := h15.gi
  obtain ⟨n16, r16, rfl, w16, h17⟩ := h16.gi
  obtain ⟨n17, r17, rfl, w17, h18⟩ := h17.gi
  obtain ⟨n18, r18, rfl, w18, h19⟩ := h18.gi
  obtain ⟨y19, r19, rfl, l19, w19, h20⟩ := h19.gl
  obtain ⟨n19, rfl, p19⟩ := WTL_map (f := eU8) (p := okU8) (fun x h => by obtain ⟨n, r, rfl, w, h⟩ := h.gi; obtain rfl := h.gn; exact ⟨n, rfl, wf_u8 w⟩) w19
  obtain ⟨n20, r20, rfl, w20, h21⟩ := h20.gi
  obtain rfl := h21.gn
  exact ⟨⟨n0, n1, n2, n3, ⟨n4, n5, n6, n7, n8, ⟨n9, n10, n11, n12, n13⟩, n14⟩, ⟨n15, n16, ⟨n17, n18, n19, n20⟩⟩⟩, rfl, ⟨by simpa using l19, p19⟩⟩
theorem psz_SecuredMessage : Sz lszSecuredMessage okTSecuredMessage preTSecuredMessage := by
  intro a left hp h0 h1
  unfold lszSecuredMessage
  obtain ⟨r0, a0, b0, c0⟩ := psz_ByteS a.Data left hp h0 h1
  rcases c0 with ⟨c0, rfl⟩ | ⟨c0, d0, e0⟩
  · exact ⟨-1, by simp [a0, c0], by omega, .inl ⟨c0, rfl⟩⟩
  exact ⟨r0, by simp [a0, c0], b0, .inr ⟨c0, d0, e0⟩⟩
theorem psz_RadioPacket : Sz lszRadioPacket okTRadioPacket preTRadioPacket := by
  intro a left hp h0 h1
  unfold lszRadioPacket
  obtain ⟨r0, a0, b0, c0⟩ := psz_SecuredMessage a.Message left hp h0 h1
  rcases c0 with ⟨c0, rfl⟩ | ⟨c0, d0, e0⟩
  · exact ⟨-1, by simp [a0, c0], by omega, .inl ⟨c0, rfl⟩⟩
  exact ⟨r0, by simp [a0, c0], b0, .inr ⟨c0, d0, e0⟩⟩
theorem psz_Flight : Sz lszFlight okTFlight preTFlight := by
  intro a left hp h0 h1
  unfold lszFlight
  obtain ⟨r0, a0, b0, c0⟩ := psz_RadioPacket a.Radio left hp h0 h1
  rcases c0 with ⟨c0, rfl⟩ | ⟨c0, d0, e0⟩
  · exact ⟨-1, by simp [a0, c0], by omega, .inl ⟨c0, rfl⟩⟩
  exact ⟨r0, by simp [a0, c0], b0, .inr ⟨c0, d0, e0⟩⟩
theorem psz_FlightS : Sz lszFlightS (okL okTFlight) (preL preTFlight) := sz_list psz_Flight (fun _ _ => rfl) (fun _ _ _ => rfl)
theorem pto_Signal : ∀ a, (fun _ => True) a → ltoSignal a = some a := fun a h => by simp [ltoSignal, pto_AuthVector _ trivial]
theorem pto_SecuredMessage : ∀ a, okTSecuredMessage a → ltoSecuredMessage a = some a := fun a h => by simp [ltoSecuredMessage, pto_ByteS _ h]
theorem pto_RadioPacket : ∀ a, okTRadioPacket a → ltoRadioPacket a = some a := fun a h => by simp [ltoRadioPacket, pto_SecuredMessage _ h]
theorem pto_Flight : ∀ a, okTFlight a → ltoFlight a = some a := fun a h => by simp [ltoFlight, pto_RadioPacket _ h, pto_Signal _ trivial]
theorem pto_FlightS : ∀ xs, okL okTFlight xs → ltoFlightS xs = some xs := to_list (⟨0, false, false, 0, ⟨0, 0, 0, 0, 0, ⟨0, 0, 0, 0, 0⟩, 0⟩, ⟨0, 0, ⟨0, 0, [], 0⟩⟩⟩ : TFlight) (by decide) pto_Flight (fun _ => rfl) (fun _ _ _ => rfl)
theorem peq_Signal : ∀ a, (fun _ => True) a → leqSignal a a = some true := fun a h => by simp [leqSignal, eqB_refl, strB, booB, peq_AuthVector _ trivial]
theorem peq_SecuredMessage : ∀ a, okTSecuredMessage a → leqSecuredMessage a a = some true := fun a h => by simp [leqSecuredMessage, eqB_refl, strB, booB, peq_ByteS _ h]
theorem peq_RadioPacket : ∀ a, okTRadioPacket a → leqRadioPacket a a = some true := fun a h => by simp [leqRadioPacket, eqB_refl, strB, booB, peq_SecuredMessage _ h]
theorem peq_Flight : ∀ a, okTFlight a → leqFlight a a = some true := fun a h => by simp [leqFlight, eqB_refl, strB, booB, peq_RadioPacket _ h, peq_Signal _ trivial]
theorem peq_FlightS : ∀ xs, okL okTFlight xs → leqFlightS xs xs = some true := eq_list peq_Flight (fun _ _ => rfl) (fun _ _ _ => rfl)
theorem pz_FlightS : Mk lmarkFlightS_z (okL okTFlight) 1099532599296 := by
  refine mk_list (L := lmarkFlightS_z_L1) (b := 1048596) (by decide) (by decide) (fun _ _ => rfl) (fun xs k => by simp [lmarkFlightS_z_L1, ltB_self]) (fun xs k i x hx hi hl hok h0 h1 => ?_)
  · skip
    obtain ⟨k0, e0, l0, u0⟩ := pz_ByteS x.Radio.Message.Data (k + 19) hok (by omega) (by omega)
    refine ⟨k0 + 1, ?_, by omega, by omega⟩
    have hw : ∀ n : Int, 0 ≤ n → n ≤ 9223372036854775807 → WR n = n := fun n h h' => WR_in (by omega)
    simp (disch := omega) only [lmarkFlightS_z_L1, ltB_lt hi, ix_nat, hx, WR_succ (show i < 9223372036854775807 by omega), Option.bind_some, cond_true, hw, Int.add_assoc, Int.reduceAdd, e0]
theorem wtTServerPool {x : List D} (h0 : WTs [.i .i64, .i .i64] x) : ∃ a : TServerPool, x = eTServerPool a ∧ (fun _ => True) a := by
  obtain ⟨n0, r0, rfl, w0, h1⟩ := h0.gi
  obtain ⟨n1, r1, rfl, w1, h2⟩ := h1.gi
  obtain rfl := h2.gn
  exact ⟨⟨n0, n1⟩, rfl, trivial⟩
theorem pto_ServerPool : ∀ a, (fun _ => True) a → ltoServerPool a = some a := fun a h => by simp [ltoServerPool]
theorem peq_ServerPool : ∀ a, (fun _ => True) a → leqServerPool a a = some true := fun a h => by simp [leqServerPool, eqB_refl, strB, booB]
def okTNetwork (a : TNetwork) : Prop := okTCellMap a.Map ∧ okL okTDevice a.Devices ∧ okL okTSession a.Sessions ∧ okL okTAccount a.Accounts ∧ okL okTFlight a.Flights
def preTNetwork (a : TNetwork) : Prop := preTCellMap a.Map ∧ preL preTDevice a.Devices ∧ preL preTSession a.Sessions ∧ preL preTAccount a.Accounts ∧ preL preTFlight a.Flights
theorem wtTNetwork {x : List D} (h0 : WTs [.l [.i .i64, .l [.i .i64]], .l [.i .i64, .i .i64, .i .i64, .i .i64, .i .i64, .i .i64, .i .i64, .i .i64, .i .i64, .b, .i .i64, .i .i64, .l [.i .i64, .l [.i .u8]], .l [.l [.i .u8]]], .l [.i .i64, .i .i64, .i .i64, .i .i64, .i .i64, .i .i64, .i .i64, .l [.i .i64], .i .i64, .i .i64, .i .i64, .i .i64, .i .i64, .i .i64, .i .i64, .i .i64, .i .i64, .i .i64, .i .i64, .i .i64, .i .i64, .i .i64, .i .i64, .l [.l [.i .u8]], .i .i64, .l [.i .i64, .l [.i .u8]], .i .i64, .i .i64, .i .i64, .i .i64], .l [.i .i64, .i .i64, .i .i64, .l [.i .i64, .i .i64]], .l [.i .i64, .b, .b, .i .i64, .i .i64, .i .i64, .i .i64, .i .i64, .i .i64, .i .i64, .i .i64, .i .i64, .i .i64, .i .i64, .i .i64, .i .i64, .i .i64, .i .i64, .i .i64, .l [.i .u8], .i .i64], .i .i64, .i .i64, .i .i64, .i .i64, .i .i64] x) : ∃ a : TNetwork, x = eTNetwork a ∧ preTNetwork a := by
  obtain ⟨y0, r0, rfl, l0, w0, h1⟩ := h0.gl
  obtain ⟨n0, rfl, p0⟩ := WTL_map (f := eTCell) (p := preTCell) (fun _ h => wtTCell h) w0
  obtain ⟨y1, r1, rfl, l1, w1, h2⟩ := h1.gl
  obtain ⟨n1, rfl, p1⟩ := WTL_map (f := eTDevice) (p := preTDevice) (fun _ h => wtTDevice h) w1
  obtain ⟨y2, r2, rfl, l2, w2, h3⟩ := h2.gl
  obtain ⟨n2, rfl, p2⟩ := WTL_map (f := eTSession) (p := preTSession) (fun _ h => wtTSession h) w2
  obtain ⟨y3, r3, rfl, l3, w3, h4⟩ := h3.gl
  obtain ⟨n3, rfl, p3⟩ := WTL_map (f := eTAccount) (p := preTAccount) (fun _ h => wtTAccount h) w3
  obtain ⟨y4, r4, rfl, l4, w4, h5⟩ := h4.gl
  obtain ⟨n4, rfl, p4⟩ := WTL_map (f := eTFlight) (p := preTFlight) (fun _ h => wtTFlight h) w4
  obtain ⟨n5, r5, rfl, w5, h6⟩ := h5.gi
  obtain ⟨n6, r6, rfl, w6, h7⟩ := h6.gi
  obtain ⟨n7, r7, rfl, w7, h8⟩ := h7.gi
  obtain ⟨n8, r8, rfl, w8, h9⟩ := h8.gi
  obtain ⟨n9, r9, rfl, w9, h10⟩ := h9.gi
  obtain rfl := h10.gn
  exact ⟨⟨⟨n0⟩, n1, n2, n3, n4, n5, ⟨n6, n7⟩, n8, n9⟩, rfl, ⟨⟨by simpa using l0, p0⟩, ⟨by simpa using l1, p1⟩, ⟨by simpa using l2, p2⟩, ⟨by simpa using l3, p3⟩, ⟨by simpa using l4, p4⟩⟩⟩
theorem psz_Network : Sz lszNetwork okTNetwork preTNetwork := by
  intro a left hp h0 h1
  unfold lszNetwork
  obtain ⟨r0, a0, b0, c0⟩ := psz_CellMap a.Map left hp.1 h0 h1
  rcases c0 with ⟨c0, rfl⟩ | ⟨c0, d0, e0⟩
  · exact ⟨-1, by simp [a0, c0], by omega, .inl ⟨c0, rfl⟩⟩
  obtain ⟨r1, a1, b1, c1⟩ := psz_DeviceS a.Devices r0 hp.2.1 d0 b0
  rcases c1 with ⟨c1, rfl⟩ | ⟨c1, d1, e1⟩
  · exact ⟨-1, by simp [a0, c0, a1, c1], by omega, .inl ⟨c1, rfl⟩⟩
  obtain ⟨r2, a2, b2, c2⟩ := psz_SessionS a.Sessions r1 hp.2.2.1 d1 b1
  rcases c2 with ⟨c2, rfl⟩ | ⟨c2, d2, e2⟩
  · exact ⟨-1, by simp [a0, c0, a1, c1, a2, c2], by omega, .inl ⟨c2, rfl⟩⟩
  obtain ⟨r3, a3, b3, c3⟩ := psz_AccountS a.Accounts r2 hp.2.2.2.1 d2 b2
  rcases c3 with ⟨c3, rfl⟩ | ⟨c3, d3, e3⟩
  · exact ⟨-1, by simp [a0, c0, a1, c1, a2, c2, a3, c3], by omega, .inl ⟨c3, rfl⟩⟩
  obtain ⟨r4, a4, b4, c4⟩ := psz_FlightS a.Flights r3 hp.2.2.2.2 d3 b3
  rcases c4 with ⟨c4, rfl⟩ | ⟨c4, d4, e4⟩
  · exact ⟨-1, by simp [a0, c0, a1, c1, a2, c2, a3, c3, a4, c4], by omega, .inl ⟨c4, rfl⟩⟩
  exact ⟨r4, by simp [a0, c0, a1, c1, a2, c2, a3, c3, a4, c4], b4, .inr ⟨c4, d4, e0, e1, e2, e3, e4⟩⟩
theorem pto_Network : ∀ a, okTNetwork a → ltoNetwork a = some a := fun a h => by simp [ltoNetwork, pto_CellMap _ h.1, pto_DeviceS _ h.2.1, pto_SessionS _ h.2.2.1, pto_AccountS _ h.2.2.2.1, pto_FlightS _ h.2.2.2.2, pto_ServerPool _ trivial]
theorem peq_Network : ∀ a, okTNetwork a → leqNetwork a a = some true := fun a h => by simp [leqNetwork, eqB_refl, strB, booB, peq_CellMap _ h.1, peq_DeviceS _ h.2.1, peq_SessionS _ h.2.2.1, peq_AccountS _ h.2.2.2.1, peq_FlightS _ h.2.2.2.2, peq_ServerPool _ trivial]
theorem pz_Network : Mk lmarkNetwork_z okTNetwork 4611693715074842624 := by
  intro a k h h0 h1
  obtain ⟨k0, e0, l0, u0⟩ := pz_CellMap a.Map k h.1 (by omega) (by omega)
  obtain ⟨k1, e1, l1, u1⟩ := pz_DeviceS a.Devices k0 h.2.1 (by omega) (by omega)
  obtain ⟨k2, e2, l2, u2⟩ := pz_SessionS a.Sessions k1 h.2.2.1 (by omega) (by omega)
  obtain ⟨k3, e3, l3, u3⟩ := pz_AccountS a.Accounts k2 h.2.2.2.1 (by omega) (by omega)
  obtain ⟨k4, e4, l4, u4⟩ := pz_FlightS a.Flights k3 h.2.2.2.2 (by omega) (by omega)
  exact ⟨k4, by simp only [lmarkNetwork_z, e0, e1, e2, e3, e4, Option.bind_some], by omega, by omega⟩
def okTKeyPath (a : TKeyPath) : Prop := okL (fun _ => True) a.Steps
def preTKeyPath (a : TKeyPath) : Prop := preL (fun _ => True) a.Steps
theorem wtTKeyPath {x : List D} (h0 : WTs [.l [.i .i64]] x) : ∃ a : TKeyPath, x = eTKeyPath a ∧ preTKeyPath a := by
  obtain ⟨y0, r0, rfl, l0, w0, h1⟩ := h0.gl
  obtain ⟨n0, rfl, p0⟩ := WTL_map (f := eI) (p := (fun _ => True)) (fun x h => by obtain ⟨n, r, rfl, w, h⟩ := h.gi; obtain rfl := h.gn; exact ⟨n, rfl, trivial⟩) w0
  obtain rfl := h1.gn
  exact ⟨⟨n0⟩, rfl, ⟨by simpa using l0, p0⟩⟩
def okTLeakedKey (a : TLeakedKey) : Prop := okTKeyPath a.Path
def preTLeakedKey (a : TLeakedKey) : Prop := preTKeyPath a.Path
theorem wtTLeakedKey {x : List D} (h0 : WTs [.i .i64, .l [.i .i64]] x) : ∃ a : TLeakedKey, x = eTLeakedKey a ∧ preTLeakedKey a := by
  obtain ⟨n0, r0, rfl, w0, h1⟩ := h0.gi
  obtain ⟨y1, r1, rfl, l1, w1, h2⟩ := h1.gl
  obtain ⟨n1, rfl, p1⟩ := WTL_map (f := eI) (p := (fun _ => True)) (fun x h => by obtain ⟨n, r, rfl, w, h⟩ := h.gi; obtain rfl := h.gn; exact ⟨n, rfl, trivial⟩) w1
  obtain rfl := h2.gn
  exact ⟨⟨n0, ⟨n1⟩⟩, rfl, ⟨by simpa using l1, p1⟩⟩
theorem psz_KeyPath : Sz lszKeyPath okTKeyPath preTKeyPath := by
  intro a left hp h0 h1
  unfold lszKeyPath
  obtain ⟨r0, a0, b0, c0⟩ := psz_IntS a.Steps left hp h0 h1
  rcases c0 with ⟨c0, rfl⟩ | ⟨c0, d0, e0⟩
  · exact ⟨-1, by simp [a0, c0], by omega, .inl ⟨c0, rfl⟩⟩
  exact ⟨r0, by simp [a0, c0], b0, .inr ⟨c0, d0, e0⟩⟩
theorem psz_LeakedKey : Sz lszLeakedKey okTLeakedKey preTLeakedKey := by
  intro a left hp h0 h1
  unfold lszLeakedKey
  obtain ⟨r0, a0, b0, c0⟩ := psz_KeyPath a.Path left hp h0 h1
  rcases c0 with ⟨c0, rfl⟩ | ⟨c0, d0, e0⟩
  · exact ⟨-1, by simp [a0, c0], by omega, .inl ⟨c0, rfl⟩⟩
  exact ⟨r0, by simp [a0, c0], b0, .inr ⟨c0, d0, e0⟩⟩
theorem psz_LeakedKeyS : Sz lszLeakedKeyS (okL okTLeakedKey) (preL preTLeakedKey) := sz_list psz_LeakedKey (fun _ _ => rfl) (fun _ _ _ => rfl)
theorem pto_KeyPath : ∀ a, okTKeyPath a → ltoKeyPath a = some a := fun a h => by simp [ltoKeyPath, pto_IntS _ h]
theorem pto_LeakedKey : ∀ a, okTLeakedKey a → ltoLeakedKey a = some a := fun a h => by simp [ltoLeakedKey, pto_KeyPath _ h]
theorem pto_LeakedKeyS : ∀ xs, okL okTLeakedKey xs → ltoLeakedKeyS xs = some xs := to_list (⟨0, ⟨[]⟩⟩ : TLeakedKey) (by decide) pto_LeakedKey (fun _ => rfl) (fun _ _ _ => rfl)
theorem peq_KeyPath : ∀ a, okTKeyPath a → leqKeyPath a a = some true := fun a h => by simp [leqKeyPath, eqB_refl, strB, booB, peq_IntS _ h]
theorem peq_LeakedKey : ∀ a, okTLeakedKey a → leqLeakedKey a a = some true := fun a h => by simp [leqLeakedKey, eqB_refl, strB, booB, peq_KeyPath _ h]
theorem peq_LeakedKeyS : ∀ xs, okL okTLeakedKey xs → leqLeakedKeyS xs xs = some true := eq_list peq_LeakedKey (fun _ _ => rfl) (fun _ _ _ => rfl)
theorem pz_LeakedKeyS : Mk lmarkLeakedKeyS_z (okL okTLeakedKey) 1099512676352 := by
  refine mk_list (L := lmarkLeakedKeyS_z_L1) (b := 1048577) (by decide) (by decide) (fun _ _ => rfl) (fun xs k => by simp [lmarkLeakedKeyS_z_L1, ltB_self]) (fun xs k i x hx hi hl hok h0 h1 => ?_)
  · skip
    obtain ⟨k0, e0, l0, u0⟩ := pz_IntS x.Path.Steps (k + 1) hok (by omega) (by omega)
    refine ⟨k0, ?_, by omega, by omega⟩
    have hw : ∀ n : Int, 0 ≤ n → n ≤ 9223372036854775807 → WR n = n := fun n h h' => WR_in (by omega)
    simp (disch := omega) only [lmarkLeakedKeyS_z_L1, ltB_lt hi, ix_nat, hx, WR_succ (show i < 9223372036854775807 by omega), Option.bind_some, cond_true, hw, Int.add_assoc, Int.reduceAdd, e0]
def gIntS (k : Int) : Int := k
theorem pmark_IntS (xs : List Int) (h : xs.length ≤ 1048576) : lmarkIntS xs 1 = some (1 + (1 : Int) * (xs.length : Int), marks gIntS 1 xs.length 1) := by
  have := mark_list gIntS 1 (by decide) (L := lmarkIntS_L1) (fun k i v hi hl h0 h1 => by
    have hw : ∀ j : Int, 0 ≤ j → j ≤ 100 → WR (k + j) = k + j := fun j h2 h3 => WR_in (by omega)
    simp [lmarkIntS_L1, ltB_lt hi, ix_nat, List.getElem?_eq_getElem hi, hi, List.set_set, gIntS, WR_succ (show i < 9223372036854775807 by omega), hw, Int.add_assoc]) (fun k v => by simp [lmarkIntS_L1, ltB_self]) xs h
  unfold lmarkIntS
  rw [this]; rfl
theorem pheld_IntS (n : Nat) (h : n ≤ 1048576) : lheldIntS (marks gIntS 1 n 1) 1 = some (1 + (1 : Int) * (n : Int)) := by
  have := held_list gIntS 1 (by decide) (L := lheldIntS_L1) (fun xs k i hi h0 h1 h2 => by
    have hlt := (List.getElem?_eq_some_iff.1 hi).1
    have hw : ∀ j : Int, 0 ≤ j → j ≤ 100 → WR (k + j) = k + j := fun j h2 h3 => WR_in (by omega)
    simp [lheldIntS_L1, ltB_lt hlt, ix_nat, hi, gIntS, eqB_refl, WR_succ (show i < 9223372036854775807 by omega), hw, Int.add_assoc]) (fun xs k => by simp [lheldIntS_L1, ltB_self]) n h
  exact this
def gReservationS (k : Int) : TReservation := (⟨k, k + 1⟩ : TReservation)
theorem pmark_ReservationS (xs : List TReservation) (h : xs.length ≤ 1048576) : lmarkReservationS xs 1 = some (1 + (2 : Int) * (xs.length : Int), marks gReservationS 2 xs.length 1) := by
  have := mark_list gReservationS 2 (by decide) (L := lmarkReservationS_L1) (fun k i v hi hl h0 h1 => by
    have hw : ∀ j : Int, 0 ≤ j → j ≤ 100 → WR (k + j) = k + j := fun j h2 h3 => WR_in (by omega)
    simp [lmarkReservationS_L1, ltB_lt hi, ix_nat, List.getElem?_eq_getElem hi, hi, List.set_set, gReservationS, WR_succ (show i < 9223372036854775807 by omega), hw, Int.add_assoc]) (fun k v => by simp [lmarkReservationS_L1, ltB_self]) xs h
  unfold lmarkReservationS
  rw [this]; rfl
end Go.AM
