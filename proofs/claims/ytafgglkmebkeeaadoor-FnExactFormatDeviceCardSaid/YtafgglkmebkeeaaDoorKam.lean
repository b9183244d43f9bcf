/-
  Own text: a part of the abstract machine for this seat (Kam). No statement is proved here.
-/
import Derived.Test.YtafgglkmebkeeaaDoorJal
import Derived.Test.YtafgglkmebkeeaaDoorPw
import Derived.Test.YtafgglkmebkeeaaDoorPr
set_option linter.unusedVariables false
set_option linter.unusedSimpArgs false
namespace Go.AM
attribute [local simp] ltB_self eqB_refl ix_nat
theorem wtTStatementLine {x : List D} (h0 : WTs [.i .i64, .i .i64, .i .i64] x) : ∃ a : TStatementLine, x = eTStatementLine a ∧ (fun _ => True) a := by
  obtain ⟨n0, r0, rfl, w0, h1⟩ := h0.gi
  obtain ⟨n1, r1, rfl, w1, h2⟩ := h1.gi
  obtain ⟨n2, r2, rfl, w2, h3⟩ := h2.gi
  obtain rfl := h3.gn
  exact ⟨⟨n0, n1, n2⟩, rfl, trivial⟩
def rngTStatementLine (a : TStatementLine) : Prop := rgI .i64 a.Payer ∧ rgI .i64 a.Payee ∧ rgI .i64 a.Amount
theorem rgTStatementLine {a : TStatementLine} (h0 : WTs [.i .i64, .i .i64, .i .i64] (eTStatementLine a)) : rngTStatementLine a := by
  unfold eTStatementLine at h0
  obtain ⟨c0, h1⟩ := h0.cut
  obtain ⟨c1, h2⟩ := h1.cut
  obtain ⟨c2, h3⟩ := h2.cut
  exact ⟨c0.rg, c1.rg, c2.rg⟩
theorem psz_StatementLineS : Sz lszStatementLineS (okL (fun _ => True)) (preL (fun _ => True)) := sz_flat (fun _ _ => rfl)
theorem pto_StatementLine : ∀ a, (fun _ => True) a → ltoStatementLine a = some a := fun a h => by simp [ltoStatementLine]
theorem pto_StatementLineS : ∀ xs, okL (fun _ => True) xs → ltoStatementLineS xs = some xs := to_list (⟨0, 0, 0⟩ : TStatementLine) (by decide) pto_StatementLine (fun _ => rfl) (fun _ _ _ => rfl)
theorem peq_StatementLine : ∀ a, (fun _ => True) a → leqStatementLine a a = some true := fun a h => by simp [leqStatementLine, eqB_refl, strB, booB]
theorem peq_StatementLineS : ∀ xs, okL (fun _ => True) xs → leqStatementLineS xs xs = some true := eq_list peq_StatementLine (fun _ _ => rfl) (fun _ _ _ => rfl)
theorem wtTReservation {x : List D} (h0 : WTs [.i .i64, .i .i64] x) : ∃ a : TReservation, x = eTReservation a ∧ (fun _ => True) a := by
  obtain ⟨n0, r0, rfl, w0, h1⟩ := h0.gi
  obtain ⟨n1, r1, rfl, w1, h2⟩ := h1.gi
  obtain rfl := h2.gn
  exact ⟨⟨n0, n1⟩, rfl, trivial⟩
def rngTReservation (a : TReservation) : Prop := rgI .i64 a.SessionID ∧ rgI .i64 a.Amount
theorem rgTReservation {a : TReservation} (h0 : WTs [.i .i64, .i .i64] (eTReservation a)) : rngTReservation a := by
  unfold eTReservation at h0
  obtain ⟨c0, h1⟩ := h0.cut
  obtain ⟨c1, h2⟩ := h1.cut
  exact ⟨c0.rg, c1.rg⟩
theorem psz_ReservationS : Sz lszReservationS (okL (fun _ => True)) (preL (fun _ => True)) := sz_flat (fun _ _ => rfl)
theorem pto_Reservation : ∀ a, (fun _ => True) a → ltoReservation a = some a := fun a h => by simp [ltoReservation]
theorem pto_ReservationS : ∀ xs, okL (fun _ => True) xs → ltoReservationS xs = some xs := to_list (⟨0, 0⟩ : TReservation) (by decide) pto_Reservation (fun _ => rfl) (fun _ _ _ => rfl)
theorem peq_Reservation : ∀ a, (fun _ => True) a → leqReservation a a = some true := fun a h => by simp [leqReservation, eqB_refl, strB, booB]
theorem peq_ReservationS : ∀ xs, okL (fun _ => True) xs → leqReservationS xs xs = some true := eq_list peq_Reservation (fun _ _ => rfl) (fun _ _ _ => rfl)
def okTAccount (a : TAccount) : Prop := okL (fun _ => True) a.Reservations
def preTAccount (a : TAccount) : Prop := preL (fun _ => True) a.Reservations
theorem wtTAccount {x : List D} (h0 : WTs [.i .i64, .i .i64, .i .i64, .l [.i .i64, .i .i64]] x) : ∃ a : TAccount, x = eTAccount a ∧ preTAccount a := by
  obtain ⟨n0, r0, rfl, w0, h1⟩ := h0.gi
  obtain ⟨n1, r1, rfl, w1, h2⟩ := h1.gi
  obtain ⟨n2, r2, rfl, w2, h3⟩ := h2.gi
  obtain ⟨y3, r3, rfl, l3, w3, h4⟩ := h3.gl
  obtain ⟨n3, rfl, p3⟩ := WTL_map (f := eTReservation) (p := (fun _ => True)) (fun _ h => wtTReservation h) w3
  obtain rfl := h4.gn
  exact ⟨⟨n0, n1, n2, n3⟩, rfl, ⟨by simpa using l3, p3⟩⟩
def rngTAccount (a : TAccount) : Prop := rgI .i64 a.Total ∧ rgI .i64 a.Available ∧ rgI .i64 a.Spent ∧ (∀ x ∈ a.Reservations, rngTReservation x)
theorem rgTAccount {a : TAccount} (h0 : WTs [.i .i64, .i .i64, .i .i64, .l [.i .i64, .i .i64]] (eTAccount a)) : rngTAccount a := by
  unfold eTAccount at h0
  obtain ⟨c0, h1⟩ := h0.cut
  obtain ⟨c1, h2⟩ := h1.cut
  obtain ⟨c2, h3⟩ := h2.cut
  obtain ⟨c3, h4⟩ := h3.cut
  exact ⟨c0.rg, c1.rg, c2.rg, fun x hx => rgTReservation (c3.rl x hx)⟩
theorem psz_Account : Sz lszAccount okTAccount preTAccount := by
  intro a left hp h0 h1
  unfold lszAccount
  obtain ⟨r0, a0, b0, c0⟩ := psz_ReservationS a.Reservations left hp h0 h1
  rcases c0 with ⟨c0, rfl⟩ | ⟨c0, d0, e0⟩
  · exact ⟨-1, by simp [a0, c0], by omega, .inl ⟨c0, rfl⟩⟩
  exact ⟨r0, by simp [a0, c0], b0, .inr ⟨c0, d0, e0⟩⟩
theorem pto_Account : ∀ a, okTAccount a → ltoAccount a = some a := fun a h => by simp [ltoAccount, pto_ReservationS _ h]
theorem peq_Account : ∀ a, okTAccount a → leqAccount a a = some true := fun a h => by simp [leqAccount, eqB_refl, strB, booB, peq_ReservationS _ h]
theorem wtTAuthVector {x : List D} (h0 : WTs [.i .i64, .i .i64, .i .i64, .i .i64, .i .i64] x) : ∃ a : TAuthVector, x = eTAuthVector a ∧ (fun _ => True) a := by
  obtain ⟨n0, r0, rfl, w0, h1⟩ := h0.gi
  obtain ⟨n1, r1, rfl, w1, h2⟩ := h1.gi
  obtain ⟨n2, r2, rfl, w2, h3⟩ := h2.gi
  obtain ⟨n3, r3, rfl, w3, h4⟩ := h3.gi
  obtain ⟨n4, r4, rfl, w4, h5⟩ := h4.gi
  obtain rfl := h5.gn
  exact ⟨⟨n0, n1, n2, n3, n4⟩, rfl, trivial⟩
def rngTAuthVector (a : TAuthVector) : Prop := rgI .i64 a.Rand ∧ rgI .i64 a.Autn ∧ rgI .i64 a.MAC ∧ rgI .i64 a.Res ∧ rgI .i64 a.Key
theorem rgTAuthVector {a : TAuthVector} (h0 : WTs [.i .i64, .i .i64, .i .i64, .i .i64, .i .i64] (eTAuthVector a)) : rngTAuthVector a := by
  unfold eTAuthVector at h0
  obtain ⟨c0, h1⟩ := h0.cut
  obtain ⟨c1, h2⟩ := h1.cut
  obtain ⟨c2, h3⟩ := h2.cut
  obtain ⟨c3, h4⟩ := h3.cut
  obtain ⟨c4, h5⟩ := h4.cut
  exact ⟨c0.rg, c1.rg, c2.rg, c3.rg, c4.rg⟩
theorem pto_AuthVector : ∀ a, (fun _ => True) a → ltoAuthVector a = some a := fun a h => by simp [ltoAuthVector]
theorem peq_AuthVector : ∀ a, (fun _ => True) a → leqAuthVector a a = some true := fun a h => by simp [leqAuthVector, eqB_refl, strB, booB]
theorem wtTSignal {x : List D} (h0 : WTs [.i .i64, .i .i64, .i .i64, .i .i64, .i .i64, .i .i64, .i .i64, .i .i64, .i .i64, .i .i64, .i .i64] x) : ∃ a : TSignal, x = eTSignal a ∧ (fun _ => True) a := by
  obtain ⟨n0, r0, rfl, w0, h1⟩ := h0.gi
  obtain ⟨n1, r1, rfl, w1, h2⟩ := h1.gi
  obtain ⟨n2, r2, rfl, w2, h3⟩ := h2.gi
  obtain ⟨n3, r3, rfl, w3, h4⟩ := h3.gi
  obtain ⟨n4, r4, rfl, w4, h5⟩ := h4.gi
  obtain ⟨n5, r5, rfl, w5, h6⟩ := h5.gi
  obtain ⟨n6, r6, rfl, w6, h7⟩ := h6.gi
  obtain ⟨n7, r7, rfl, w7, h8⟩ := h7.gi
  obtain ⟨n8, r8, rfl, w8, h9⟩ := h8.gi
  obtain ⟨n9, r9, rfl, w9, h10⟩ := h9.gi
  obtain ⟨n10, r10, rfl, w10, h11⟩ := h10.gi
  obtain rfl := h11.gn
  exact ⟨⟨n0, n1, n2, n3, n4, ⟨n5, n6, n7, n8, n9⟩, n10⟩, rfl, trivial⟩
def rngTSignal (a : TSignal) : Prop := rgI .i64 a.Kind ∧ rgI .i64 a.Cell ∧ rgI .i64 a.Generation ∧ rgI .i64 a.Epoch ∧ rgI .i64 a.Number ∧ rgI .i64 a.Vector.Rand ∧ rgI .i64 a.Vector.Autn ∧ rgI .i64 a.Vector.MAC ∧ rgI .i64 a.Vector.Res ∧ rgI .i64 a.Vector.Key ∧ rgI .i64 a.MAC
theorem rgTSignal {a : TSignal} (h0 : WTs [.i .i64, .i .i64, .i .i64, .i .i64, .i .i64, .i .i64, .i .i64, .i .i64, .i .i64, .i .i64, .i .i64] (eTSignal a)) : rngTSignal a := by
  unfold eTSignal at h0
  obtain ⟨c0, h1⟩ := h0.cut
  obtain ⟨c1, h2⟩ := h1.cut
  obtain ⟨c2, h3⟩ := h2.cut
  obtain ⟨c3, h4⟩ := h3.cut
  obtain ⟨c4, h5⟩ := h4.cut
  obtain ⟨c5, h6⟩ := h5.cut
  obtain ⟨c6, h7⟩ := h6.cut
  obtain ⟨c7, h8⟩ := h7.cut
  obtain ⟨c8, h9⟩ := h8.cut
  obtain ⟨c9, h10⟩ := h9.cut
  obtain ⟨c10, h11⟩ := h10.cut
  exact ⟨c0.rg, c1.rg, c2.rg, c3.rg, c4.rg, c5.rg, c6.rg, c7.rg, c8.rg, c9.rg, c10.rg⟩
theorem pto_Signal : ∀ a, (fun _ => True) a → ltoSignal a = some a := fun a h => by simp [ltoSignal, pto_AuthVector _ trivial]
theorem peq_Signal : ∀ a, (fun _ => True) a → leqSignal a a = some true := fun a h => by simp [leqSignal, eqB_refl, strB, booB, peq_AuthVector _ trivial]
theorem psz_ByteS : Sz lszByteS (okL (fun _ => True)) (preL okU8) := sz_flat (fun _ _ => rfl)
theorem pto_ByteS : ∀ xs, okL (fun _ => True) xs → ltoByteS xs = some xs := to_list (0 : Int) (by decide) (t := fun a => some a) (fun _ _ => rfl) (fun _ => rfl) (fun _ _ _ => rfl)
theorem peq_ByteS : ∀ xs, okL (fun _ => True) xs → leqByteS xs xs = some true := eq_list (e := fun x y => some (eqB x y)) (fun _ _ => by simp [eqB_refl]) (fun _ _ => rfl) (fun _ _ _ => rfl)
def okTSecuredMessage (a : TSecuredMessage) : Prop := okL (fun _ => True) a.Data
def preTSecuredMessage (a : TSecuredMessage) : Prop := preL okU8 a.Data
theorem wtTSecuredMessage {x : List D} (h0 : WTs [.i .i64, .i .i64, .l [.i .u8], .i .i64] x) : ∃ a : TSecuredMessage, x = eTSecuredMessage a ∧ preTSecuredMessage a := by
  obtain ⟨n0, r0, rfl, w0, h1⟩ := h0.gi
  obtain ⟨n1, r1, rfl, w1, h2⟩ := h1.gi
  obtain ⟨y2, r2, rfl, l2, w2, h3⟩ := h2.gl
  obtain ⟨n2, rfl, p2⟩ := WTL_map (f := eU8) (p := okU8) (fun x h => by obtain ⟨n, r, rfl, w, h⟩ := h.gi; obtain rfl := h.gn; exact ⟨n, rfl, wf_u8 w⟩) w2
  obtain ⟨n3, r3, rfl, w3, h4⟩ := h3.gi
  obtain rfl := h4.gn
  exact ⟨⟨n0, n1, n2, n3⟩, rfl, ⟨by simpa using l2, p2⟩⟩
def rngTSecuredMessage (a : TSecuredMessage) : Prop := rgI .i64 a.Direction ∧ rgI .i64 a.Count ∧ (∀ x ∈ a.Data, rgI .u8 x) ∧ rgI .i64 a.MAC
theorem rgTSecuredMessage {a : TSecuredMessage} (h0 : WTs [.i .i64, .i .i64, .l [.i .u8], .i .i64] (eTSecuredMessage a)) : rngTSecuredMessage a := by
  unfold eTSecuredMessage at h0
  obtain ⟨c0, h1⟩ := h0.cut
  obtain ⟨c1, h2⟩ := h1.cut
  obtain ⟨c2, h3⟩ := h2.cut
  obtain ⟨c3, h4⟩ := h3.cut
  exact ⟨c0.rg, c1.rg, fun x hx => (WTs.cut (c2.rl x hx)).1.rg, c3.rg⟩
theorem psz_SecuredMessage : Sz lszSecuredMessage okTSecuredMessage preTSecuredMessage := by
  intro a left hp h0 h1
  unfold lszSecuredMessage
  obtain ⟨r0, a0, b0, c0⟩ := psz_ByteS a.Data left hp h0 h1
  rcases c0 with ⟨c0, rfl⟩ | ⟨c0, d0, e0⟩
  · exact ⟨-1, by simp [a0, c0], by omega, .inl ⟨c0, rfl⟩⟩
  exact ⟨r0, by simp [a0, c0], b0, .inr ⟨c0, d0, e0⟩⟩
theorem pto_SecuredMessage : ∀ a, okTSecuredMessage a → ltoSecuredMessage a = some a := fun a h => by simp [ltoSecuredMessage, pto_ByteS _ h]
theorem peq_SecuredMessage : ∀ a, okTSecuredMessage a → leqSecuredMessage a a = some true := fun a h => by simp [leqSecuredMessage, eqB_refl, strB, booB, peq_ByteS _ h]
def okTRadioPacket (a : TRadioPacket) : Prop := okTSecuredMessage a.Message
def preTRadioPacket (a : TRadioPacket) : Prop := preTSecuredMessage a.Message
theorem wtTRadioPacket {x : List D} (h0 : WTs [.i .i64, .i .i64, .i .i64, .i .i64, .l [.i .u8], .i .i64] x) : ∃ a : TRadioPacket, x = eTRadioPacket a ∧ preTRadioPacket a := by
  obtain ⟨n0, r0, rfl, w0, h1⟩ := h0.gi
  obtain ⟨n1, r1, rfl, w1, h2⟩ := h1.gi
  obtain ⟨n2, r2, rfl, w2, h3⟩ := h2.gi
  obtain ⟨n3, r3, rfl, w3, h4⟩ := h3.gi
  obtain ⟨y4, r4, rfl, l4, w4, h5⟩ := h4.gl
  obtain ⟨n4, rfl, p4⟩ := WTL_map (f := eU8) (p := okU8) (fun x h => by obtain ⟨n, r, rfl, w, h⟩ := h.gi; obtain rfl := h.gn; exact ⟨n, rfl, wf_u8 w⟩) w4
  obtain ⟨n5, r5, rfl, w5, h6⟩ := h5.gi
  obtain rfl := h6.gn
  exact ⟨⟨n0, n1, ⟨n2, n3, n4, n5⟩⟩, rfl, ⟨by simpa using l4, p4⟩⟩
def rngTRadioPacket (a : TRadioPacket) : Prop := rgI .i64 a.Generation ∧ rgI .i64 a.Epoch ∧ rgI .i64 a.Message.Direction ∧ rgI .i64 a.Message.Count ∧ (∀ x ∈ a.Message.Data, rgI .u8 x) ∧ rgI .i64 a.Message.MAC
theorem rgTRadioPacket {a : TRadioPacket} (h0 : WTs [.i .i64, .i .i64, .i .i64, .i .i64, .l [.i .u8], .i .i64] (eTRadioPacket a)) : rngTRadioPacket a := by
  unfold eTRadioPacket at h0
  obtain ⟨c0, h1⟩ := h0.cut
  obtain ⟨c1, h2⟩ := h1.cut
  obtain ⟨c2, h3⟩ := h2.cut
  obtain ⟨c3, h4⟩ := h3.cut
  obtain ⟨c4, h5⟩ := h4.cut
  obtain ⟨c5, h6⟩ := h5.cut
  exact ⟨c0.rg, c1.rg, c2.rg, c3.rg, fun x hx => (WTs.cut (c4.rl x hx)).1.rg, c5.rg⟩
theorem psz_RadioPacket : Sz lszRadioPacket okTRadioPacket preTRadioPacket := by
  intro a left hp h0 h1
  unfold lszRadioPacket
  obtain ⟨r0, a0, b0, c0⟩ := psz_SecuredMessage a.Message left hp h0 h1
  rcases c0 with ⟨c0, rfl⟩ | ⟨c0, d0, e0⟩
  · exact ⟨-1, by simp [a0, c0], by omega, .inl ⟨c0, rfl⟩⟩
  exact ⟨r0, by simp [a0, c0], b0, .inr ⟨c0, d0, e0⟩⟩
theorem pto_RadioPacket : ∀ a, okTRadioPacket a → ltoRadioPacket a = some a := fun a h => by simp [ltoRadioPacket, pto_SecuredMessage _ h]
theorem peq_RadioPacket : ∀ a, okTRadioPacket a → leqRadioPacket a a = some true := fun a h => by simp [leqRadioPacket, eqB_refl, strB, booB, peq_SecuredMessage _ h]
def okTFlight (a : TFlight) : Prop := okTRadioPacket a.Radio
def preTFlight (a : TFlight) : Prop := preTRadioPacket a.Radio
theorem wtTFlight {x : List D} (h0 : WTs [.i .i64, .b, .b, .i .i64, .i .i64, .i .i64, .i .i64, .i .i64, .i .i64, .i .i64, .i .i64, .i .i64, .i .i64, .i .i64, .i .i64, .i .i64, .i .i64, .i .i64, .i .i64, .l [.i .u8], .i .i64] x) : ∃ a : TFlight, x = eTFlight a ∧ preTFlight a := by
  obtain ⟨n0, r0, rfl, w0, h1⟩ := h0.gi
  obtain ⟨n1, r1, rfl, h2⟩ := h1.gb
  obtain ⟨n2, r2, rfl, h3⟩ := h2.gb
  obtain ⟨n3, r3, rfl, w3, h4⟩ := h3.gi
  obtain ⟨n4, r4, rfl, w4, h5⟩ := h4.gi
  obtain ⟨n5, r5, rfl, w5, h6⟩ := h5.gi
  obtain ⟨n6, r6, rfl, w6, h7⟩ := h6.gi
  obtain ⟨n7, r7, rfl, w7, h8⟩ := h7.gi
  obtain ⟨n8, r8, rfl, w8, h9⟩ := h8.gi
  obtain ⟨n9, r9, rfl, w9, h10⟩ := h9.gi
  obtain ⟨n10, r10, rfl, w10, h11⟩ := h10.gi
  obtain ⟨n11, r11, rfl, w11, h12⟩ := h11.gi
  obtain ⟨n12, r12, rfl, w12, h13⟩ := h12.gi
  obtain ⟨n13, r13, rfl, w13, h14⟩ := h13.gi
  obtain ⟨n14, r14, rfl, w14, h15⟩ := h14.gi
  obtain ⟨n15, r15, rfl, w15, h16⟩ := h15.gi
  obtain ⟨n16, r16, rfl, w16, h17⟩ := h16.gi
  obtain ⟨n17, r17, rfl, w17, h18⟩ := h17.gi
  obtain ⟨n18, r18, rfl, w18, h19⟩ := h18.gi
  obtain ⟨y19, r19, rfl, l19, w19, h20⟩ := h19.gl
  obtain ⟨n19, rfl, p19⟩ := WTL_map (f := eU8) (p := okU8) (fun x h => by obtain ⟨n, r, rfl, w, h⟩ := h.gi; obtain rfl := h.gn; exact ⟨n, rfl, wf_u8 w⟩) w19
  obtain ⟨n20, r20, rfl, w20, h21⟩ := h20.gi
  obtain rfl := h21.gn
  exact ⟨⟨n0, n1, n2, n3, ⟨n4, n5, n6, n7, n8, ⟨n9, n10, n11, n12, n13⟩, n14⟩, ⟨n15, n16, ⟨n17, n18, n19, n20⟩⟩⟩, rfl, ⟨by simpa using l19, p19⟩⟩
def rngTFlight (a : TFlight) : Prop := rgI .i64 a.Device ∧ rgI .i64 a.Cell ∧ rgI .i64 a.Signal.Kind ∧ rgI .i64 a.Signal.Cell ∧ rgI .i64 a.Signal.Generation ∧ rgI .i64 a.Signal.Epoch ∧ rgI .i64 a.Signal.Number ∧ rgI .i64 a.Signal.Vector.Rand ∧ rgI .i64 a.Signal.Vector.Autn ∧ rgI .i64 a.Signal.Vector.MAC ∧ rgI .i64 a.Signal.Vector.Res ∧ rgI .i64 a.Signal.Vector.Key ∧ rgI .i64 a.Signal.MAC ∧ rgI .i64 a.Radio.Generation ∧ rgI .i64 a.Radio.Epoch ∧ rgI .i64 a.Radio.Message.Direction ∧ rgI .i64 a.Radio.Message.Count ∧ (∀ x ∈ a.Radio.Message.Data, rgI .u8 x) ∧ rgI .i64 a.Radio.Message.MAC
theorem rgTFlight {a : TFlight} (h0 : WTs [.i .i64, .b, .b, .i .i64, .i .i64, .i .i64, .i .i64, .i .i64, .i .i64, .i .i64, .i .i64, .i .i64, .i .i64, .i .i64, .i .i64, .i .i64, .i .i64, .i .i64, .i .i64, .l [.i .u8], .i .i64] (eTFlight a)) : rngTFlight a := by
  unfold eTFlight at h0
  obtain ⟨c0, h1⟩ := h0.cut
  obtain ⟨c1, h2⟩ := h1.cut
  obtain ⟨c2, h3⟩ := h2.cut
  obtain ⟨c3, h4⟩ := h3.cut
  obtain ⟨c4, h5⟩ := h4.cut
  obtain ⟨c5, h6⟩ := h5.cut
  obtain ⟨c6, h7⟩ := h6.cut
  obtain ⟨c7, h8⟩ := h7.cut
  obtain ⟨c8, h9⟩ := h8.cut
  obtain ⟨c9, h10⟩ := h9.cut
  obtain ⟨c10, h11⟩ := h10.cut
  obtain ⟨c11, h12⟩ := h11.cut
  obtain ⟨c12, h13⟩ := h12.cut
  obtain ⟨c13, h14⟩ := h13.cut
  obtain ⟨c14, h15⟩ := h14.cut
  obtain ⟨c15, h16⟩ := h15.cut
  obtain ⟨c16, h17⟩ := h16.cut
  obtain ⟨c17, h18⟩ := h17.cut
  obtain ⟨c18, h19⟩ := h18.cut
  obtain ⟨c19, h20⟩ := h19.cut
  obtain ⟨c20, h21⟩ := h20.cut
  exact ⟨c0.rg, c3.rg, c4.rg, c5.rg, c6.rg, c7.rg, c8.rg, c9.rg, c10.rg, c11.rg, c12.rg, c13.rg, c14.rg, c15.rg, c16.rg, c17.rg, c18.rg, fun x hx => (WTs.cut (c19.rl x hx)).1.rg, c20.rg⟩
theorem psz_Flight : Sz lszFlight okTFlight preTFlight := by
  intro a left hp h0 h1
  unfold lszFlight
  obtain ⟨r0, a0, b0, c0⟩ := psz_RadioPacket a.Radio left hp h0 h1
  rcases c0 with ⟨c0, rfl⟩ | ⟨c0, d0, e0⟩
  · exact ⟨-1, by simp [a0, c0], by omega, .inl ⟨c0, rfl⟩⟩
  exact ⟨r0, by simp [a0, c0], b0, .inr ⟨c0, d0, e0⟩⟩
theorem pto_Flight : ∀ a, okTFlight a → ltoFlight a = some a := fun a h => by simp [ltoFlight, pto_RadioPacket _ h, pto_Signal _ trivial]
theorem peq_Flight : ∀ a, okTFlight a → leqFlight a a = some true := fun a h => by simp [leqFlight, eqB_refl, strB, booB, peq_RadioPacket _ h, peq_Signal _ trivial]
theorem wtTSubscriberID {x : List D} (h0 : WTs [.i .i64, .i .i64] x) : ∃ a : TSubscriberID, x = eTSubscriberID a ∧ (fun _ => True) a := by
  obtain ⟨n0, r0, rfl, w0, h1⟩ := h0.gi
  obtain ⟨n1, r1, rfl, w1, h2⟩ := h1.gi
  obtain rfl := h2.gn
  exact ⟨⟨n0, n1⟩, rfl, trivial⟩
def rngTSubscriberID (a : TSubscriberID) : Prop := rgI .i64 a.Network ∧ rgI .i64 a.Number
theorem rgTSubscriberID {a : TSubscriberID} (h0 : WTs [.i .i64, .i .i64] (eTSubscriberID a)) : rngTSubscriberID a := by
  unfold eTSubscriberID at h0
  obtain ⟨c0, h1⟩ := h0.cut
  obtain ⟨c1, h2⟩ := h1.cut
  exact ⟨c0.rg, c1.rg⟩
theorem pto_SubscriberID : ∀ a, (fun _ => True) a → ltoSubscriberID a = some a := fun a h => by simp [ltoSubscriberID]
theorem peq_SubscriberID : ∀ a, (fun _ => True) a → leqSubscriberID a a = some true := fun a h => by simp [leqSubscriberID, eqB_refl, strB, booB]
theorem wtTUSIM {x : List D} (h0 : WTs [.i .i64, .i .i64, .i .i64, .i .i64] x) : ∃ a : TUSIM, x = eTUSIM a ∧ (fun _ => True) a := by
  obtain ⟨n0, r0, rfl, w0, h1⟩ := h0.gi
  obtain ⟨n1, r1, rfl, w1, h2⟩ := h1.gi
  obtain ⟨n2, r2, rfl, w2, h3⟩ := h2.gi
  obtain ⟨n3, r3, rfl, w3, h4⟩ := h3.gi
  obtain rfl := h4.gn
  exact ⟨⟨⟨n0, n1⟩, n2, n3⟩, rfl, trivial⟩
def rngTUSIM (a : TUSIM) : Prop := rgI .i64 a.ID.Network ∧ rgI .i64 a.ID.Number ∧ rgI .i64 a.Key ∧ rgI .i64 a.LastSeq
theorem rgTUSIM {a : TUSIM} (h0 : WTs [.i .i64, .i .i64, .i .i64, .i .i64] (eTUSIM a)) : rngTUSIM a := by
  unfold eTUSIM at h0
  obtain ⟨c0, h1⟩ := h0.cut
  obtain ⟨c1, h2⟩ := h1.cut
  obtain ⟨c2, h3⟩ := h2.cut
  obtain ⟨c3, h4⟩ := h3.cut
  exact ⟨c0.rg, c1.rg, c2.rg, c3.rg⟩
theorem pto_USIM : ∀ a, (fun _ => True) a → ltoUSIM a = some a := fun a h => by simp [ltoUSIM, pto_SubscriberID _ trivial]
theorem peq_USIM : ∀ a, (fun _ => True) a → leqUSIM a a = some true := fun a h => by simp [leqUSIM, eqB_refl, strB, booB, peq_SubscriberID _ trivial]
def okTNumberedPacket (a : TNumberedPacket) : Prop := okL (fun _ => True) a.Data
def preTNumberedPacket (a : TNumberedPacket) : Prop := preL okU8 a.Data
theorem wtTNumberedPacket {x : List D} (h0 : WTs [.i .i64, .l [.i .u8]] x) : ∃ a : TNumberedPacket, x = eTNumberedPacket a ∧ preTNumberedPacket a := by
  obtain ⟨n0, r0, rfl, w0, h1⟩ := h0.gi
  obtain ⟨y1, r1, rfl, l1, w1, h2⟩ := h1.gl
  obtain ⟨n1, rfl, p1⟩ := WTL_map (f := eU8) (p := okU8) (fun x h => by obtain ⟨n, r, rfl, w, h⟩ := h.gi; obtain rfl := h.gn; exact ⟨n, rfl, wf_u8 w⟩) w1
  obtain rfl := h2.gn
  exact ⟨⟨n0, n1⟩, rfl, ⟨by simpa using l1, p1⟩⟩
def rngTNumberedPacket (a : TNumberedPacket) : Prop := rgI .i64 a.Seq ∧ (∀ x ∈ a.Data, rgI .u8 x)
theorem rgTNumberedPacket {a : TNumberedPacket} (h0 : WTs [.i .i64, .l [.i .u8]] (eTNumberedPacket a)) : rngTNumberedPacket a := by
  unfold eTNumberedPacket at h0
  obtain ⟨c0, h1⟩ := h0.cut
  obtain ⟨c1, h2⟩ := h1.cut
  exact ⟨c0.rg, fun x hx => (WTs.cut (c1.rl x hx)).1.rg⟩
theorem psz_NumberedPacket : Sz lszNumberedPacket okTNumberedPacket preTNumberedPacket := by
  intro a left hp h0 h1
  unfold lszNumberedPacket
  obtain ⟨r0, a0, b0, c0⟩ := psz_ByteS a.Data left hp h0 h1
  rcases c0 with ⟨c0, rfl⟩ | ⟨c0, d0, e0⟩
  · exact ⟨-1, by simp [a0, c0], by omega, .inl ⟨c0, rfl⟩⟩
  exact ⟨r0, by simp [a0, c0], b0, .inr ⟨c0, d0, e0⟩⟩
theorem psz_NumberedPacketS : Sz lszNumberedPacketS (okL okTNumberedPacket) (preL preTNumberedPacket) := sz_list psz_NumberedPacket (fun _ _ => rfl) (fun _ _ _ => rfl)
theorem pto_NumberedPacket : ∀ a, okTNumberedPacket a → ltoNumberedPacket a = some a := fun a h => by simp [ltoNumberedPacket, pto_ByteS _ h]
theorem pto_NumberedPacketS : ∀ xs, okL okTNumberedPacket xs → ltoNumberedPacketS xs = some xs := to_list (⟨0, []⟩ : TNumberedPacket) (by decide) pto_NumberedPacket (fun _ => rfl) (fun _ _ _ => rfl)
theorem peq_NumberedPacket : ∀ a, okTNumberedPacket a → leqNumberedPacket a a = some true := fun a h => by simp [leqNumberedPacket, eqB_refl, strB, booB, peq_ByteS _ h]
theorem peq_NumberedPacketS : ∀ xs, okL okTNumberedPacket xs → leqNumberedPacketS xs xs = some true := eq_list peq_NumberedPacket (fun _ _ => rfl) (fun _ _ _ => rfl)
def okTPayload (a : TPayload) : Prop := okL (fun _ => True) a.Data
def preTPayload (a : TPayload) : Prop := preL okU8 a.Data
theorem wtTPayload {x : List D} (h0 : WTs [.l [.i .u8]] x) : ∃ a : TPayload, x = eTPayload a ∧ preTPayload a := by
  obtain ⟨y0, r0, rfl, l0, w0, h1⟩ := h0.gl
  obtain ⟨n0, rfl, p0⟩ := WTL_map (f := eU8) (p := okU8) (fun x h => by obtain ⟨n, r, rfl, w, h⟩ := h.gi; obtain rfl := h.gn; exact ⟨n, rfl, wf_u8 w⟩) w0
  obtain rfl := h1.gn
  exact ⟨⟨n0⟩, rfl, ⟨by simpa using l0, p0⟩⟩
def rngTPayload (a : TPayload) : Prop := (∀ x ∈ a.Data, rgI .u8 x)
theorem rgTPayload {a : TPayload} (h0 : WTs [.l [.i .u8]] (eTPayload a)) : rngTPayload a := by
  unfold eTPayload at h0
  obtain ⟨c0, h1⟩ := h0.cut
  exact fun x hx => (WTs.cut (c0.rl x hx)).1.rg
theorem psz_Payload : Sz lszPayload okTPayload preTPayload := by
  intro a left hp h0 h1
  unfold lszPayload
  obtain ⟨r0, a0, b0, c0⟩ := psz_ByteS a.Data left hp h0 h1
  rcases c0 with ⟨c0, rfl⟩ | ⟨c0, d0, e0⟩
  · exact ⟨-1, by simp [a0, c0], by omega, .inl ⟨c0, rfl⟩⟩
  exact ⟨r0, by simp [a0, c0], b0, .inr ⟨c0, d0, e0⟩⟩
theorem psz_PayloadS : Sz lszPayloadS (okL okTPayload) (preL preTPayload) := sz_list psz_Payload (fun _ _ => rfl) (fun _ _ _ => rfl)
theorem pto_Payload : ∀ a, okTPayload a → ltoPayload a = some a := fun a h => by simp [ltoPayload, pto_ByteS _ h]
theorem pto_PayloadS : ∀ xs, okL okTPayload xs → ltoPayloadS xs = some xs := to_list (⟨[]⟩ : TPayload) (by decide) pto_Payload (fun _ => rfl) (fun _ _ _ => rfl)
theorem peq_Payload : ∀ a, okTPayload a → leqPayload a a = some true := fun a h => by simp [leqPayload, eqB_refl, strB, booB, peq_ByteS _ h]
theorem peq_PayloadS : ∀ xs, okL okTPayload xs → leqPayloadS xs xs = some true := eq_list peq_Payload (fun _ _ => rfl) (fun _ _ _ => rfl)
def okTReceiveWindow (a : TReceiveWindow) : Prop := okL okTNumberedPacket a.Pending ∧ okL okTPayload a.Delivered
def preTReceiveWindow (a : TReceiveWindow) : Prop := preL preTNumberedPacket a.Pending ∧ preL preTPayload a.Delivered
theorem wtTReceiveWindow {x : List D} (h0 : WTs [.i .i64, .l [.i .i64, .l [.i .u8]], .l [.l [.i .u8]]] x) : ∃ a : TReceiveWindow, x = eTReceiveWindow a ∧ preTReceiveWindow a := by
  obtain ⟨n0, r0, rfl, w0, h1⟩ := h0.gi
  obtain ⟨y1, r1, rfl, l1, w1, h2⟩ := h1.gl
  obtain ⟨n1, rfl, p1⟩ := WTL_map (f := eTNumberedPacket) (p := preTNumberedPacket) (fun _ h => wtTNumberedPacket h) w1
  obtain ⟨y2, r2, rfl, l2, w2, h3⟩ := h2.gl
  obtain ⟨n2, rfl, p2⟩ := WTL_map (f := eTPayload) (p := preTPayload) (fun _ h => wtTPayload h) w2
  obtain rfl := h3.gn
  exact ⟨⟨n0, n1, n2⟩, rfl, ⟨⟨by simpa using l1, p1⟩, ⟨by simpa using l2, p2⟩⟩⟩
def rngTReceiveWindow (a : TReceiveWindow) : Prop := rgI .i64 a.Next ∧ (∀ x ∈ a.Pending, rngTNumberedPacket x) ∧ (∀ x ∈ a.Delivered, rngTPayload x)
theorem rgTReceiveWindow {a : TReceiveWindow} (h0 : WTs [.i .i64, .l [.i .i64, .l [.i .u8]], .l [.l [.i .u8]]] (eTReceiveWindow a)) : rngTReceiveWindow a := by
  unfold eTReceiveWindow at h0
  obtain ⟨c0, h1⟩ := h0.cut
  obtain ⟨c1, h2⟩ := h1.cut
  obtain ⟨c2, h3⟩ := h2.cut
  exact ⟨c0.rg, fun x hx => rgTNumberedPacket (c1.rl x hx), fun x hx => rgTPayload (c2.rl x hx)⟩
theorem psz_ReceiveWindow : Sz lszReceiveWindow okTReceiveWindow preTReceiveWindow := by
  intro a left hp h0 h1
  unfold lszReceiveWindow
  obtain ⟨r0, a0, b0, c0⟩ := psz_NumberedPacketS a.Pending left hp.1 h0 h1
  rcases c0 with ⟨c0, rfl⟩ | ⟨c0, d0, e0⟩
  · exact ⟨-1, by simp [a0, c0], by omega, .inl ⟨c0, rfl⟩⟩
  obtain ⟨r1, a1, b1, c1⟩ := psz_PayloadS a.Delivered r0 hp.2 d0 b0
  rcases c1 with ⟨c1, rfl⟩ | ⟨c1, d1, e1⟩
  · exact ⟨-1, by simp [a0, c0, a1, c1], by omega, .inl ⟨c1, rfl⟩⟩
  exact ⟨r1, by simp [a0, c0, a1, c1], b1, .inr ⟨c1, d1, e0, e1⟩⟩
theorem pto_ReceiveWindow : ∀ a, okTReceiveWindow a → ltoReceiveWindow a = some a := fun a h => by simp [ltoReceiveWindow, pto_NumberedPacketS _ h.1, pto_PayloadS _ h.2]
theorem peq_ReceiveWindow : ∀ a, okTReceiveWindow a → leqReceiveWindow a a = some true := fun a h => by simp [leqReceiveWindow, eqB_refl, strB, booB, peq_NumberedPacketS _ h.1, peq_PayloadS _ h.2]
def okTDevice (a : TDevice) : Prop := okTReceiveWindow a.Receiver
def preTDevice (a : TDevice) : Prop := preTReceiveWindow a.Receiver
theorem wtTDevice {x : List D} (h0 : WTs [.i .i64, .i .i64, .i .i64, .i .i64, .i .i64, .i .i64, .i .i64, .i .i64, .i .i64, .b, .i .i64, .i .i64, .l [.i .i64, .l [.i .u8]], .l [.l [.i .u8]]] x) : ∃ a : TDevice, x = eTDevice a ∧ preTDevice a := by
  obtain ⟨n0, r0, rfl, w0, h1⟩ := h0.gi
  obtain ⟨n1, r1, rfl, w1, h2⟩ := h1.gi
  obtain ⟨n2, r2, rfl, w2, h3⟩ := h2.gi
  obtain ⟨n3, r3, rfl, w3, h4⟩ := h3.gi
  obtain ⟨n4, r4, rfl, w4, h5⟩ := h4.gi
  obtain ⟨n5, r5, rfl, w5, h6⟩ := h5.gi
  obtain ⟨n6, r6, rfl, w6, h7⟩ := h6.gi
  obtain ⟨n7, r7, rfl, w7, h8⟩ := h7.gi
  obtain ⟨n8, r8, rfl, w8, h9⟩ := h8.gi
  obtain ⟨n9, r9, rfl, h10⟩ := h9.gb
  obtain ⟨n10, r10, rfl, w10, h11⟩ := h10.gi
  obtain ⟨n11, r11, rfl, w11, h12⟩ := h11.gi
  obtain ⟨y12, r12, rfl, l12, w12, h13⟩ := h12.gl
  obtain ⟨n12, rfl, p12⟩ := WTL_map (f := eTNumberedPacket) (p := preTNumberedPacket) (fun _ h => wtTNumberedPacket h) w12
  obtain ⟨y13, r13, rfl, l13, w13, h14⟩ := h13.gl
  obtain ⟨n13, rfl, p13⟩ := WTL_map (f := eTPayload) (p := preTPayload) (fun _ h => wtTPayload h) w13
  obtain rfl := h14.gn
  exact ⟨⟨⟨⟨n0, n1⟩, n2, n3⟩, n4, n5, n6, n7, n8, n9, n10, ⟨n11, n12, n13⟩⟩, rfl, ⟨⟨by simpa using l12, p12⟩, ⟨by simpa using l13, p13⟩⟩⟩
def rngTDevice (a : TDevice) : Prop := rgI .i64 a.Card.ID.Network ∧ rgI .i64 a.Card.ID.Number ∧ rgI .i64 a.Card.Key ∧ rgI .i64 a.Card.LastSeq ∧ rgI .i64 a.State ∧ rgI .i64 a.Cell ∧ rgI .i64 a.Generation ∧ rgI .i64 a.RootKey ∧ rgI .i64 a.Epoch ∧ rgI .i64 a.Wait ∧ rgI .i64 a.Receiver.Next ∧ (∀ x ∈ a.Receiver.Pending, rngTNumberedPacket x) ∧ (∀ x ∈ a.Receiver.Delivered, rngTPayload x)
theorem rgTDevice {a : TDevice} (h0 : WTs [.i .i64, .i .i64, .i .i64, .i .i64, .i .i64, .i .i64, .i .i64, .i .i64, .i .i64, .b, .i .i64, .i .i64, .l [.i .i64, .l [.i .u8]], .l [.l [.i .u8]]] (eTDevice a)) : rngTDevice a := by
  unfold eTDevice at h0
  obtain ⟨c0, h1⟩ := h0.cut
  obtain ⟨c1, h2⟩ := h1.cut
  obtain ⟨c2, h3⟩ := h2.cut
  obtain ⟨c3, h4⟩ := h3.cut
  obtain ⟨c4, h5⟩ := h4.cut
  obtain ⟨c5, h6⟩ := h5.cut
  obtain ⟨c6, h7⟩ := h6.cut
  obtain ⟨c7, h8⟩ := h7.cut
  obtain ⟨c8, h9⟩ := h8.cut
  obtain ⟨c9, h10⟩ := h9.cut
  obtain ⟨c10, h11⟩ := h10.cut
  obtain ⟨c11, h12⟩ := h11.cut
  obtain ⟨c12, h13⟩ := h12.cut
  obtain ⟨c13, h14⟩ := h13.cut
  exact ⟨c0.rg, c1.rg, c2.rg, c3.rg, c4.rg, c5.rg, c6.rg, c7.rg, c8.rg, c10.rg, c11.rg, fun x hx => rgTNumberedPacket (c12.rl x hx), fun x hx => rgTPayload (c13.rl x hx)⟩
theorem psz_Device : Sz lszDevice okTDevice preTDevice := by
  intro a left hp h0 h1
  unfold lszDevice
  obtain ⟨r0, a0, b0, c0⟩ := psz_ReceiveWindow a.Receiver left hp h0 h1
  rcases c0 with ⟨c0, rfl⟩ | ⟨c0, d0, e0⟩
  · exact ⟨-1, by simp [a0, c0], by omega, .inl ⟨c0, rfl⟩⟩
  exact ⟨r0, by simp [a0, c0], b0, .inr ⟨c0, d0, e0⟩⟩
theorem pto_Device : ∀ a, okTDevice a → ltoDevice a = some a := fun a h => by simp [ltoDevice, pto_ReceiveWindow _ h, pto_USIM _ trivial]
theorem peq_Device : ∀ a, okTDevice a → leqDevice a a = some true := fun a h => by simp [leqDevice, eqB_refl, strB, booB, peq_ReceiveWindow _ h, peq_USIM _ trivial]
theorem wtTSubscriberRecord {x : List D} (h0 : WTs [.i .i64, .i .i64, .i .i64, .i .i64] x) : ∃ a : TSubscriberRecord, x = eTSubscriberRecord a ∧ (fun _ => True) a := by
  obtain ⟨n0, r0, rfl, w0, h1⟩ := h0.gi
  obtain ⟨n1, r1, rfl, w1, h2⟩ := h1.gi
  obtain ⟨n2, r2, rfl, w2, h3⟩ := h2.gi
  obtain ⟨n3, r3, rfl, w3, h4⟩ := h3.gi
  obtain rfl := h4.gn
  exact ⟨⟨⟨n0, n1⟩, n2, n3⟩, rfl, trivial⟩
def rngTSubscriberRecord (a : TSubscriberRecord) : Prop := rgI .i64 a.ID.Network ∧ rgI .i64 a.ID.Number ∧ rgI .i64 a.Key ∧ rgI .i64 a.Seq
theorem rgTSubscriberRecord {a : TSubscriberRecord} (h0 : WTs [.i .i64, .i .i64, .i .i64, .i .i64] (eTSubscriberRecord a)) : rngTSubscriberRecord a := by
  unfold eTSubscriberRecord at h0
  obtain ⟨c0, h1⟩ := h0.cut
  obtain ⟨c1, h2⟩ := h1.cut
  obtain ⟨c2, h3⟩ := h2.cut
  obtain ⟨c3, h4⟩ := h3.cut
  exact ⟨c0.rg, c1.rg, c2.rg, c3.rg⟩
theorem pto_SubscriberRecord : ∀ a, (fun _ => True) a → ltoSubscriberRecord a = some a := fun a h => by simp [ltoSubscriberRecord, pto_SubscriberID _ trivial]
theorem peq_SubscriberRecord : ∀ a, (fun _ => True) a → leqSubscriberRecord a a = some true := fun a h => by simp [leqSubscriberRecord, eqB_refl, strB, booB, peq_SubscriberID _ trivial]
theorem psz_IntS : Sz lszIntS (okL (fun _ => True)) (preL (fun _ => True)) := sz_flat (fun _ _ => rfl)
theorem pto_IntS : ∀ xs, okL (fun _ => True) xs → ltoIntS xs = some xs := to_list (0 : Int) (by decide) (t := fun a => some a) (fun _ _ => rfl) (fun _ => rfl) (fun _ _ _ => rfl)
theorem peq_IntS : ∀ xs, okL (fun _ => True) xs → leqIntS xs xs = some true := eq_list (e := fun x y => some (eqB x y)) (fun _ _ => by simp [eqB_refl]) (fun _ _ => rfl) (fun _ _ _ => rfl)
def okTSubscription (a : TSubscription) : Prop := okL (fun _ => True) a.RoamingNetworks
def preTSubscription (a : TSubscription) : Prop := preL (fun _ => True) a.RoamingNetworks
theorem wtTSubscription {x : List D} (h0 : WTs [.i .i64, .i .i64, .i .i64, .l [.i .i64]] x) : ∃ a : TSubscription, x = eTSubscription a ∧ preTSubscription a := by
  obtain ⟨n0, r0, rfl, w0, h1⟩ := h0.gi
  obtain ⟨n1, r1, rfl, w1, h2⟩ := h1.gi
  obtain ⟨n2, r2, rfl, w2, h3⟩ := h2.gi
  obtain ⟨y3, r3, rfl, l3, w3, h4⟩ := h3.gl
  obtain ⟨n3, rfl, p3⟩ := WTL_map (f := eI) (p := (fun _ => True)) (fun x h => by obtain ⟨n, r, rfl, w, h⟩ := h.gi; obtain rfl := h.gn; exact ⟨n, rfl, trivial⟩) w3
  obtain rfl := h4.gn
  exact ⟨⟨n0, n1, n2, n3⟩, rfl, ⟨by simpa using l3, p3⟩⟩
def rngTSubscription (a : TSubscription) : Prop := rgI .i64 a.RateLimit ∧ rgI .i64 a.BestClass ∧ rgI .i64 a.GrantSize ∧ (∀ x ∈ a.RoamingNetworks, rgI .i64 x)
theorem rgTSubscription {a : TSubscription} (h0 : WTs [.i .i64, .i .i64, .i .i64, .l [.i .i64]] (eTSubscription a)) : rngTSubscription a := by
  unfold eTSubscription at h0
  obtain ⟨c0, h1⟩ := h0.cut
  obtain ⟨c1, h2⟩ := h1.cut
  obtain ⟨c2, h3⟩ := h2.cut
  obtain ⟨c3, h4⟩ := h3.cut
  exact ⟨c0.rg, c1.rg, c2.rg, fun x hx => (WTs.cut (c3.rl x hx)).1.rg⟩
theorem psz_Subscription : Sz lszSubscription okTSubscription preTSubscription := by
  intro a left hp h0 h1
  unfold lszSubscription
  obtain ⟨r0, a0, b0, c0⟩ := psz_IntS a.RoamingNetworks left hp h0 h1
  rcases c0 with ⟨c0, rfl⟩ | ⟨c0, d0, e0⟩
  · exact ⟨-1, by simp [a0, c0], by omega, .inl ⟨c0, rfl⟩⟩
  exact ⟨r0, by simp [a0, c0], b0, .inr ⟨c0, d0, e0⟩⟩
theorem pto_Subscription : ∀ a, okTSubscription a → ltoSubscription a = some a := fun a h => by simp [ltoSubscription, pto_IntS _ h]
theorem peq_Subscription : ∀ a, okTSubscription a → leqSubscription a a = some true := fun a h => by simp [leqSubscription, eqB_refl, strB, booB, peq_IntS _ h]
theorem wtTPagingState {x : List D} (h0 : WTs [.i .i64, .i .i64, .i .i64] x) : ∃ a : TPagingState, x = eTPagingState a ∧ (fun _ => True) a := by
  obtain ⟨n0, r0, rfl, w0, h1⟩ := h0.gi
  obtain ⟨n1, r1, rfl, w1, h2⟩ := h1.gi
  obtain ⟨n2, r2, rfl, w2, h3⟩ := h2.gi
  obtain rfl := h3.gn
  exact ⟨⟨n0, n1, n2⟩, rfl, trivial⟩
def rngTPagingState (a : TPagingState) : Prop := rgI .i64 a.Area ∧ rgI .i64 a.Attempt ∧ rgI .i64 a.Wait
theorem rgTPagingState {a : TPagingState} (h0 : WTs [.i .i64, .i .i64, .i .i64] (eTPagingState a)) : rngTPagingState a := by
  unfold eTPagingState at h0
  obtain ⟨c0, h1⟩ := h0.cut
  obtain ⟨c1, h2⟩ := h1.cut
  obtain ⟨c2, h3⟩ := h2.cut
  exact ⟨c0.rg, c1.rg, c2.rg⟩
theorem pto_PagingState : ∀ a, (fun _ => True) a → ltoPagingState a = some a := fun a h => by simp [ltoPagingState]
theorem peq_PagingState : ∀ a, (fun _ => True) a → leqPagingState a a = some true := fun a h => by simp [leqPagingState, eqB_refl, strB, booB]
def okTSendWindow (a : TSendWindow) : Prop := okL okTNumberedPacket a.Unacked
def preTSendWindow (a : TSendWindow) : Prop := preL preTNumberedPacket a.Unacked
theorem wtTSendWindow {x : List D} (h0 : WTs [.i .i64, .l [.i .i64, .l [.i .u8]]] x) : ∃ a : TSendWindow, x = eTSendWindow a ∧ preTSendWindow a := by
  obtain ⟨n0, r0, rfl, w0, h1⟩ := h0.gi
  obtain ⟨y1, r1, rfl, l1, w1, h2⟩ := h1.gl
  obtain ⟨n1, rfl, p1⟩ := WTL_map (f := eTNumberedPacket) (p := preTNumberedPacket) (fun _ h => wtTNumberedPacket h) w1
  obtain rfl := h2.gn
  exact ⟨⟨n0, n1⟩, rfl, ⟨by simpa using l1, p1⟩⟩
def rngTSendWindow (a : TSendWindow) : Prop := rgI .i64 a.Next ∧ (∀ x ∈ a.Unacked, rngTNumberedPacket x)
theorem rgTSendWindow {a : TSendWindow} (h0 : WTs [.i .i64, .l [.i .i64, .l [.i .u8]]] (eTSendWindow a)) : rngTSendWindow a := by
  unfold eTSendWindow at h0
  obtain ⟨c0, h1⟩ := h0.cut
  obtain ⟨c1, h2⟩ := h1.cut
  exact ⟨c0.rg, fun x hx => rgTNumberedPacket (c1.rl x hx)⟩
theorem psz_SendWindow : Sz lszSendWindow okTSendWindow preTSendWindow := by
  intro a left hp h0 h1
  unfold lszSendWindow
  obtain ⟨r0, a0, b0, c0⟩ := psz_NumberedPacketS a.Unacked left hp h0 h1
  rcases c0 with ⟨c0, rfl⟩ | ⟨c0, d0, e0⟩
  · exact ⟨-1, by simp [a0, c0], by omega, .inl ⟨c0, rfl⟩⟩
  exact ⟨r0, by simp [a0, c0], b0, .inr ⟨c0, d0, e0⟩⟩
theorem pto_SendWindow : ∀ a, okTSendWindow a → ltoSendWindow a = some a := fun a h => by simp [ltoSendWindow, pto_NumberedPacketS _ h]
theorem peq_SendWindow : ∀ a, okTSendWindow a → leqSendWindow a a = some true := fun a h => by simp [leqSendWindow, eqB_refl, strB, booB, peq_NumberedPacketS _ h]
theorem wtTQuota {x : List D} (h0 : WTs [.i .i64, .i .i64, .i .i64] x) : ∃ a : TQuota, x = eTQuota a ∧ (fun _ => True) a := by
  obtain ⟨n0, r0, rfl, w0, h1⟩ := h0.gi
  obtain ⟨n1, r1, rfl, w1, h2⟩ := h1.gi
  obtain ⟨n2, r2, rfl, w2, h3⟩ := h2.gi
  obtain rfl := h3.gn
  exact ⟨⟨n0, n1, n2⟩, rfl, trivial⟩
def rngTQuota (a : TQuota) : Prop := rgI .i64 a.SessionID ∧ rgI .i64 a.Granted ∧ rgI .i64 a.Used
theorem rgTQuota {a : TQuota} (h0 : WTs [.i .i64, .i .i64, .i .i64] (eTQuota a)) : rngTQuota a := by
  unfold eTQuota at h0
  obtain ⟨c0, h1⟩ := h0.cut
  obtain ⟨c1, h2⟩ := h1.cut
  obtain ⟨c2, h3⟩ := h2.cut
  exact ⟨c0.rg, c1.rg, c2.rg⟩
theorem pto_Quota : ∀ a, (fun _ => True) a → ltoQuota a = some a := fun a h => by simp [ltoQuota]
theorem peq_Quota : ∀ a, (fun _ => True) a → leqQuota a a = some true := fun a h => by simp [leqQuota, eqB_refl, strB, booB]
def okTSession (a : TSession) : Prop := okTSubscription a.Plan ∧ okL okTPayload a.Submitted ∧ okTSendWindow a.Window
def preTSession (a : TSession) : Prop := preTSubscription a.Plan ∧ preL preTPayload a.Submitted ∧ preTSendWindow a.Window
theorem wtTSession {x : List D} (h0 : WTs [.i .i64, .i .i64, .i .i64, .i .i64, .i .i64, .i .i64, .i .i64, .l [.i .i64], .i .i64, .i .i64, .i .i64, .i .i64, .i .i64, .i .i64, .i .i64, .i .i64, .i .i64, .i .i64, .i .i64, .i .i64, .i .i64, .i .i64, .i .i64, .l [.l [.i .u8]], .i .i64, .l [.i .i64, .l [.i .u8]], .i .i64, .i .i64, .i .i64, .i .i64] x) : ∃ a : TSession, x = eTSession a ∧ preTSession a := by
  obtain ⟨n0, r0, rfl, w0, h1⟩ := h0.gi
  obtain ⟨n1, r1, rfl, w1, h2⟩ := h1.gi
  obtain ⟨n2, r2, rfl, w2, h3⟩ := h2.gi
  obtain ⟨n3, r3, rfl, w3, h4⟩ := h3.gi
  obtain ⟨n4, r4, rfl, w4, h5⟩ := h4.gi
  obtain ⟨n5, r5, rfl, w5, h6⟩ := h5.gi
  obtain ⟨n6, r6, rfl, w6, h7⟩ := h6.gi
  obtain ⟨y7, r7, rfl, l7, w7, h8⟩ := h7.gl
  obtain ⟨n7, rfl, p7⟩ := WTL_map (f := eI) (p := (fun _ => True)) (fun x h => by obtain ⟨n, r, rfl, w, h⟩ := h.gi; obtain rfl := h.gn; exact ⟨n, rfl, trivial⟩) w7
  obtain ⟨n8, r8, rfl, w8, h9⟩ := h8.gi
  obtain ⟨n9, r9, rfl, w9, h10⟩ := h9.gi
  obtain ⟨n10, r10, rfl, w10, h11⟩ := h10.gi
  obtain ⟨n11, r11, rfl, w11, h12⟩ := h11.gi
  obtain ⟨n12, r12, rfl, w12, h13⟩ := h12.gi
  obtain ⟨n13, r13, rfl, w13, h14⟩ := h13.gi
  obtain ⟨n14, r14, rfl, w14, h15⟩ := h14.gi
  obtain ⟨n15, r15, rfl, w15, h16⟩ := h15.gi
  obtain ⟨n16, r16, rfl, w16, h17⟩ := h16.gi
  obtain ⟨n17, r17, rfl, w17, h18⟩ := h17.gi
  obtain ⟨n18, r18, rfl, w18, h19⟩ := h18.gi
  obtain ⟨n19, r19, rfl, w19, h20⟩ := h19.gi
  obtain ⟨n20, r20, rfl, w20, h21⟩ := h20.gi
  obtain ⟨n21, r21, rfl, w21, h22⟩ := h21.gi
  obtain ⟨n22, r22, rfl, w22, h23⟩ := h22.gi
  obtain ⟨y23, r23, rfl, l23, w23, h24⟩ := h23.gl
  obtain ⟨n23, rfl, p23⟩ := WTL_map (f := eTPayload) (p := preTPayload) (fun _ h => wtTPayload h) w23
  obtain ⟨n24, r24, rfl, w24, h25⟩ := h24.gi
  obtain ⟨y25, r25, rfl, l25, w25, h26⟩ := h25.gl
  obtain ⟨n25, rfl, p25⟩ := WTL_map (f := eTNumberedPacket) (p := preTNumberedPacket) (fun _ h => wtTNumberedPacket h) w25
  obtain ⟨n26, r26, rfl, w26, h27⟩ := h26.gi
  obtain ⟨n27, r27, rfl, w27, h28⟩ := h27.gi
  obtain ⟨n28, r28, rfl, w28, h29⟩ := h28.gi
  obtain ⟨n29, r29, rfl, w29, h30⟩ := h29.gi
  obtain rfl := h30.gn
  exact ⟨⟨⟨⟨n0, n1⟩, n2, n3⟩, ⟨n4, n5, n6, n7⟩, n8, ⟨n9, n10, n11, n12, n13⟩, n14, n15, n16, n17, n18, n19, ⟨n20, n21, n22⟩, n23, ⟨n24, n25⟩, n26, ⟨n27, n28, n29⟩⟩, rfl, ⟨⟨by simpa using l7, p7⟩, ⟨by simpa using l23, p23⟩, ⟨by simpa using l25, p25⟩⟩⟩
def rngTSession (a : TSession) : Prop := rgI .i64 a.Record.ID.Network ∧ rgI .i64 a.Record.ID.Number ∧ rgI .i64 a.Record.Key ∧ rgI .i64 a.Record.Seq ∧ rgI .i64 a.Plan.RateLimit ∧ rgI .i64 a.Plan.BestClass ∧ rgI .i64 a.Plan.GrantSize ∧ (∀ x ∈ a.Plan.RoamingNetworks, rgI .i64 x) ∧ rgI .i64 a.State ∧ rgI .i64 a.Pending.Rand ∧ rgI .i64 a.Pending.Autn ∧ rgI .i64 a.Pending.MAC ∧ rgI .i64 a.Pending.Res ∧ rgI .i64 a.Pending.Key ∧ rgI .i64 a.PendingSeq ∧ rgI .i64 a.Generation ∧ rgI .i64 a.RootKey ∧ rgI .i64 a.Epoch ∧ rgI .i64 a.Cell ∧ rgI .i64 a.Quiet ∧ rgI .i64 a.Page.Area ∧ rgI .i64 a.Page.Attempt ∧ rgI .i64 a.Page.Wait ∧ (∀ x ∈ a.Submitted, rngTPayload x) ∧ rgI .i64 a.Window.Next ∧ (∀ x ∈ a.Window.Unacked, rngTNumberedPacket x) ∧ rgI .i64 a.Retry ∧ rgI .i64 a.Usage.SessionID ∧ rgI .i64 a.Usage.Granted ∧ rgI .i64 a.Usage.Used
theorem rgTSession {a : TSession} (h0 : WTs [.i .i64, .i .i64, .i .i64, .i .i64, .i .i64, .i .i64, .i .i64, .l [.i .i64], .i .i64, .i .i64, .i .i64, .i .i64, .i .i64, .i .i64, .i .i64, .i .i64, .i .i64, .i .i64, .i .i64, .i .i64, .i .i64, .i .i64, .i .i64, .l [.l [.i .u8]], .i .i64, .l [.i .i64, .l [.i .u8]], .i .i64, .i .i64, .i .i64, .i .i64] (eTSession a)) : rngTSession a := by
  unfold eTSession at h0
  obtain ⟨c0, h1⟩ := h0.cut
  obtain ⟨c1, h2⟩ := h1.cut
  obtain ⟨c2, h3⟩ := h2.cut
  obtain ⟨c3, h4⟩ := h3.cut
  obtain ⟨c4, h5⟩ := h4.cut
  obtain ⟨c5, h6⟩ := h5.cut
  obtain ⟨c6, h7⟩ := h6.cut
  obtain ⟨c7, h8⟩ := h7.cut
  obtain ⟨c8, h9⟩ := h8.cut
  obtain ⟨c9, h10⟩ := h9.cut
  obtain ⟨c10, h11⟩ := h10.cut
  obtain ⟨c11, h12⟩ := h11.cut
  obtain ⟨c12, h13⟩ := h12.cut
  obtain ⟨c13, h14⟩ := h13.cut
  obtain ⟨c14, h15⟩ := h14.cut
  obtain ⟨c15, h16⟩ := h15.cut
  obtain ⟨c16, h17⟩ := h16.cut
  obtain ⟨c17, h18⟩ := h17.cut
  obtain ⟨c18, h19⟩ := h18.cut
  obtain ⟨c19, h20⟩ := h19.cut
  obtain ⟨c20, h21⟩ := h20.cut
  obtain ⟨c21, h22⟩ := h21.cut
  obtain ⟨c22, h23⟩ := h22.cut
  obtain ⟨c23, h24⟩ := h23.cut
  obtain ⟨c24, h25⟩ := h24.cut
  obtain ⟨c25, h26⟩ := h25.cut
  obtain ⟨c26, h27⟩ := h26.cut
  obtain ⟨c27, h28⟩ := h27.cut
  obtain ⟨c28, h29⟩ := h28.cut
  obtain ⟨c29, h30⟩ := h29.cut
  exact ⟨c0.rg, c1.rg, c2.rg, c3.rg, c4.rg, c5.rg, c6.rg, fun x hx => (WTs.cut (c7.rl x hx)).1.rg, c8.rg, c9.rg, c10.rg, c11.rg, c12.rg, c13.rg, c14.rg, c15.rg, c16.rg, c17.rg, c18.rg, c19.rg, c20.rg, c21.rg, c22.rg, fun x hx => rgTPayload (c23.rl x hx), c24.rg, fun x hx => rgTNumberedPacket (c25.rl x hx), c26.rg, c27.rg, c28.rg, c29.rg⟩
theorem psz_Session : Sz lszSession okTSession preTSession := by
  intro a left hp h0 h1
  unfold lszSession
  obtain ⟨r0, a0, b0, c0⟩ := psz_Subscription a.Plan left hp.1 h0 h1
  rcases c0 with ⟨c0, rfl⟩ | ⟨c0, d0, e0⟩
  · exact ⟨-1, by simp [a0, c0], by omega, .inl ⟨c0, rfl⟩⟩
  obtain ⟨r1, a1, b1, c1⟩ := psz_PayloadS a.Submitted r0 hp.2.1 d0 b0
  rcases c1 with ⟨c1, rfl⟩ | ⟨c1, d1, e1⟩
  · exact ⟨-1, by simp [a0, c0, a1, c1], by omega, .inl ⟨c1, rfl⟩⟩
  obtain ⟨r2, a2, b2, c2⟩ := psz_SendWindow a.Window r1 hp.2.2 d1 b1
  rcases c2 with ⟨c2, rfl⟩ | ⟨c2, d2, e2⟩
  · exact ⟨-1, by simp [a0, c0, a1, c1, a2, c2], by omega, .inl ⟨c2, rfl⟩⟩
  exact ⟨r2, by simp [a0, c0, a1, c1, a2, c2], b2, .inr ⟨c2, d2, e0, e1, e2⟩⟩
theorem pto_Session : ∀ a, okTSession a → ltoSession a = some a := fun a h => by simp [ltoSession, pto_Subscription _ h.1, pto_PayloadS _ h.2.1, pto_SendWindow _ h.2.2, pto_SubscriberRecord _ trivial, pto_AuthVector _ trivial, pto_PagingState _ trivial, pto_Quota _ trivial]
theorem peq_Session : ∀ a, okTSession a → leqSession a a = some true := fun a h => by simp [leqSession, eqB_refl, strB, booB, peq_Subscription _ h.1, peq_PayloadS _ h.2.1, peq_SendWindow _ h.2.2, peq_SubscriberRecord _ trivial, peq_AuthVector _ trivial, peq_PagingState _ trivial, peq_Quota _ trivial]
end Go.AM
