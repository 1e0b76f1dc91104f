/- Plain laws on words as instructions: which instruction a word is; the two decode alike. No program is in sight here. -/
import Derived.Test.YtcmncppbonaaeaaGreatDoorL06h
set_option linter.unusedVariables false
namespace Go.Proofs.YtcmncppbonaaeaaGreatDoor

theorem fit82 {w : Nat} (hw : w < 4294967296) {o : Int} (e : formOf o = 82) : Fits o w ↔ w % 128 = cN o ∧ w / 4096 % 8 = tN o ∧ w / 33554432 % 128 = sN o := by
  unfold Fits
  rw [e]
  omega
theorem wd82 {w : Nat} (hw : w < 4294967296) {o : Int} (ho : 1 ≤ o ∧ o ≤ 45) (e : formOf o = 82) : ∃ v : Nat, ref02_Word (decI o w) = some (v : Int) ∧ (v = w ↔ Fits o w) := by
  obtain ⟨⟨c1, c2, c3⟩, ⟨h1, h2, h3⟩, ⟨k1, k2, k3⟩, hf, z1, z2⟩ := op_parts ho
  have hS := sum82 (c := cN o) (t := tN o) (s := sN o) hw h1 h2 h3
  have hN : sprN (formOf o) w = 0 := by rw [e]; rfl
  have hd : (decI o w).Rd = ((w / 128 % 32 : Nat) : Int) := by unfold decI; rw [e]; rfl
  have ha : (decI o w).Rs1 = ((w / 32768 % 32 : Nat) : Int) := by unfold decI; rw [e]; rfl
  have hb : (decI o w).Rs2 = ((w / 1048576 % 32 : Nat) : Int) := by unfold decI; rw [e]; rfl
  have kn := Spread_eq (w := w) hf
  rw [hN] at kn
  exact ⟨_, Word_sum hd ha hb k1 k2 k3 kn hS.1, hS.2.trans (fit82 hw e).symm⟩
theorem ed82 {w : Nat} (hw : w < 4294967296) {o : Int} (ho : 1 ≤ o ∧ o ≤ 45) (e : formOf o = 82) (hF : Fits o w) : inst_Encode (decI o w) = some ((w : Int), (0 : Int)) := by
  obtain ⟨⟨c1, c2, c3⟩, ⟨h1, h2, h3⟩, ⟨k1, k2, k3⟩, hf, z1, z2⟩ := op_parts ho
  have hC := (fit82 hw e).1 hF
  have hor := or82 hw
  have hd : (decI o w).Rd = ((w / 128 % 32 : Nat) : Int) := by unfold decI; rw [e]; rfl
  have ha : (decI o w).Rs1 = ((w / 32768 % 32 : Nat) : Int) := by unfold decI; rw [e]; rfl
  have hb : (decI o w).Rs2 = ((w / 1048576 % 32 : Nat) : Int) := by unfold decI; rw [e]; rfl
  rw [← hC.1] at c1 h1
  rw [← hC.2.1] at c2 h2
  rw [← hC.2.2] at c3 h3
  have kn : inst_number (shp o).form (IntKind.wrap .u32 (decI o w).Imm) = some ((0 : Nat) : Int) := by
    rw [shp_form ⟨by omega, ho.2⟩, show (decI o w).Imm = immF (formOf o) w from rfl, e, immN_u32]
    exact num82 _
  have bn : (0) < 4294967296 := Nat.lt_of_le_of_lt (Nat.le_trans Nat.right_le_or (Nat.le_of_eq hor)) hw
  rw [Enc_or (dec_right hf) (of_shp (o := o) ⟨by omega, ho.2⟩) c1 c2 c3 hd ha hb kn h1 h2 h3 (Nat.mod_lt _ (by decide)) (Nat.mod_lt _ (by decide)) (Nat.mod_lt _ (by decide)) bn, hor]
theorem fit72 {w : Nat} (hw : w < 4294967296) {o : Int} (e : formOf o = 72) : Fits o w ↔ w % 128 = cN o ∧ w / 4096 % 8 = tN o ∧ w / 33554432 % 128 = sN o := by
  unfold Fits
  rw [e]
  omega
theorem wd72 {w : Nat} (hw : w < 4294967296) {o : Int} (ho : 1 ≤ o ∧ o ≤ 45) (e : formOf o = 72) : ∃ v : Nat, ref02_Word (decI o w) = some (v : Int) ∧ (v = w ↔ Fits o w) := by
  obtain ⟨⟨c1, c2, c3⟩, ⟨h1, h2, h3⟩, ⟨k1, k2, k3⟩, hf, z1, z2⟩ := op_parts ho
  have hS := sum72 (c := cN o) (t := tN o) (s := sN o) hw h1 h2 h3
  have hN : sprN (formOf o) w = w / 1048576 % 32 * 1048576 := by rw [e]; rfl
  have hd : (decI o w).Rd = ((w / 128 % 32 : Nat) : Int) := by unfold decI; rw [e]; rfl
  have ha : (decI o w).Rs1 = ((w / 32768 % 32 : Nat) : Int) := by unfold decI; rw [e]; rfl
  have hb : (decI o w).Rs2 = ((0 : Nat) : Int) := by unfold decI; rw [e]; rfl
  have kn := Spread_eq (w := w) hf
  rw [hN] at kn
  exact ⟨_, Word_sum hd ha hb k1 k2 k3 kn hS.1, hS.2.trans (fit72 hw e).symm⟩
theorem ed72 {w : Nat} (hw : w < 4294967296) {o : Int} (ho : 1 ≤ o ∧ o ≤ 45) (e : formOf o = 72) (hF : Fits o w) : inst_Encode (decI o w) = some ((w : Int), (0 : Int)) := by
  obtain ⟨⟨c1, c2, c3⟩, ⟨h1, h2, h3⟩, ⟨k1, k2, k3⟩, hf, z1, z2⟩ := op_parts ho
  have hC := (fit72 hw e).1 hF
  have hor := or72 hw
  have hd : (decI o w).Rd = ((w / 128 % 32 : Nat) : Int) := by unfold decI; rw [e]; rfl
  have ha : (decI o w).Rs1 = ((w / 32768 % 32 : Nat) : Int) := by unfold decI; rw [e]; rfl
  have hb : (decI o w).Rs2 = ((0 : Nat) : Int) := by unfold decI; rw [e]; rfl
  rw [← hC.1] at c1 h1
  rw [← hC.2.1] at c2 h2
  rw [← hC.2.2] at c3 h3
  have kn : inst_number (shp o).form (IntKind.wrap .u32 (decI o w).Imm) = some ((w / 1048576 % 32 * 1048576 : Nat) : Int) := by
    rw [shp_form ⟨by omega, ho.2⟩, show (decI o w).Imm = immF (formOf o) w from rfl, e, immN_u32]
    exact num72 w
  have bn : (w / 1048576 % 32 * 1048576) < 4294967296 := Nat.lt_of_le_of_lt (Nat.le_trans Nat.right_le_or (Nat.le_of_eq hor)) hw
  rw [Enc_or (dec_right hf) (of_shp (o := o) ⟨by omega, ho.2⟩) c1 c2 c3 hd ha hb kn h1 h2 h3 (Nat.mod_lt _ (by decide)) (Nat.mod_lt _ (by decide)) (by decide) bn, hor]
theorem fit85 {w : Nat} (hw : w < 4294967296) {o : Int} (e : formOf o = 85) : Fits o w ↔ w % 128 = cN o := by
  unfold Fits
  rw [e]
  omega
theorem wd85 {w : Nat} (hw : w < 4294967296) {o : Int} (ho : 1 ≤ o ∧ o ≤ 45) (e : formOf o = 85) : ∃ v : Nat, ref02_Word (decI o w) = some (v : Int) ∧ (v = w ↔ Fits o w) := by
  obtain ⟨⟨c1, c2, c3⟩, ⟨h1, h2, h3⟩, ⟨k1, k2, k3⟩, hf, z1, z2⟩ := op_parts ho
  have ht : tN o = 0 := z1 (by rw [e]; decide)
  have hs : sN o = 0 := z2 (by rw [e]; decide) (by rw [e]; decide)
  have hS := sum85 (c := cN o) (t := tN o) (s := sN o) hw h1 h2 h3
  have hN : sprN (formOf o) w = w / 4096 % 1048576 * 4096 := by rw [e]; rfl
  have hd : (decI o w).Rd = ((w / 128 % 32 : Nat) : Int) := by unfold decI; rw [e]; rfl
  have ha : (decI o w).Rs1 = ((0 : Nat) : Int) := by unfold decI; rw [e]; rfl
  have hb : (decI o w).Rs2 = ((0 : Nat) : Int) := by unfold decI; rw [e]; rfl
  have kn := Spread_eq (w := w) hf
  rw [hN] at kn
  rw [ht] at k2
  rw [hs] at k3
  exact ⟨_, Word_sum hd ha hb k1 k2 k3 kn hS.1, hS.2.trans (fit85 hw e).symm⟩
theorem ed85 {w : Nat} (hw : w < 4294967296) {o : Int} (ho : 1 ≤ o ∧ o ≤ 45) (e : formOf o = 85) (hF : Fits o w) : inst_Encode (decI o w) = some ((w : Int), (0 : Int)) := by
  obtain ⟨⟨c1, c2, c3⟩, ⟨h1, h2, h3⟩, ⟨k1, k2, k3⟩, hf, z1, z2⟩ := op_parts ho
  have ht : tN o = 0 := z1 (by rw [e]; decide)
  have hs : sN o = 0 := z2 (by rw [e]; decide) (by rw [e]; decide)
  have hC := (fit85 hw e).1 hF
  have hor := or85 hw
  have hd : (decI o w).Rd = ((w / 128 % 32 : Nat) : Int) := by unfold decI; rw [e]; rfl
  have ha : (decI o w).Rs1 = ((0 : Nat) : Int) := by unfold decI; rw [e]; rfl
  have hb : (decI o w).Rs2 = ((0 : Nat) : Int) := by unfold decI; rw [e]; rfl
  rw [← hC] at c1 h1
  rw [ht] at c2 h2
  rw [hs] at c3 h3
  have kn : inst_number (shp o).form (IntKind.wrap .u32 (decI o w).Imm) = some ((w / 4096 % 1048576 * 4096 : Nat) : Int) := by
    rw [shp_form ⟨by omega, ho.2⟩, show (decI o w).Imm = immF (formOf o) w from rfl, e, immN_u32]
    exact num85 w
  have bn : (w / 4096 % 1048576 * 4096) < 4294967296 := Nat.lt_of_le_of_lt (Nat.le_trans Nat.right_le_or (Nat.le_of_eq hor)) hw
  rw [Enc_or (dec_right hf) (of_shp (o := o) ⟨by omega, ho.2⟩) c1 c2 c3 hd ha hb kn h1 h2 h3 (Nat.mod_lt _ (by decide)) (by decide) (by decide) bn, hor]
theorem fit74 {w : Nat} (hw : w < 4294967296) {o : Int} (e : formOf o = 74) : Fits o w ↔ w % 128 = cN o := by
  unfold Fits
  rw [e]
  omega
theorem wd74 {w : Nat} (hw : w < 4294967296) {o : Int} (ho : 1 ≤ o ∧ o ≤ 45) (e : formOf o = 74) : ∃ v : Nat, ref02_Word (decI o w) = some (v : Int) ∧ (v = w ↔ Fits o w) := by
  obtain ⟨⟨c1, c2, c3⟩, ⟨h1, h2, h3⟩, ⟨k1, k2, k3⟩, hf, z1, z2⟩ := op_parts ho
  have ht : tN o = 0 := z1 (by rw [e]; decide)
  have hs : sN o = 0 := z2 (by rw [e]; decide) (by rw [e]; decide)
  have hS := sum74 (c := cN o) (t := tN o) (s := sN o) hw h1 h2 h3
  have hN : sprN (formOf o) w = w / 2147483648 % 2 * 2147483648 + w / 2097152 % 1024 * 2097152 + w / 1048576 % 2 * 1048576 + w / 4096 % 256 * 4096 := by rw [e]; rfl
  have hd : (decI o w).Rd = ((w / 128 % 32 : Nat) : Int) := by unfold decI; rw [e]; rfl
  have ha : (decI o w).Rs1 = ((0 : Nat) : Int) := by unfold decI; rw [e]; rfl
  have hb : (decI o w).Rs2 = ((0 : Nat) : Int) := by unfold decI; rw [e]; rfl
  have kn := Spread_eq (w := w) hf
  rw [hN] at kn
  rw [ht] at k2
  rw [hs] at k3
  exact ⟨_, Word_sum hd ha hb k1 k2 k3 kn hS.1, hS.2.trans (fit74 hw e).symm⟩
theorem ed74 {w : Nat} (hw : w < 4294967296) {o : Int} (ho : 1 ≤ o ∧ o ≤ 45) (e : formOf o = 74) (hF : Fits o w) : inst_Encode (decI o w) = some ((w : Int), (0 : Int)) := by
  obtain ⟨⟨c1, c2, c3⟩, ⟨h1, h2, h3⟩, ⟨k1, k2, k3⟩, hf, z1, z2⟩ := op_parts ho
  have ht : tN o = 0 := z1 (by rw [e]; decide)
  have hs : sN o = 0 := z2 (by rw [e]; decide) (by rw [e]; decide)
  have hC := (fit74 hw e).1 hF
  have hor := or74 hw
  have hd : (decI o w).Rd = ((w / 128 % 32 : Nat) : Int) := by unfold decI; rw [e]; rfl
  have ha : (decI o w).Rs1 = ((0 : Nat) : Int) := by unfold decI; rw [e]; rfl
  have hb : (decI o w).Rs2 = ((0 : Nat) : Int) := by unfold decI; rw [e]; rfl
  rw [← hC] at c1 h1
  rw [ht] at c2 h2
  rw [hs] at c3 h3
  have kn : inst_number (shp o).form (IntKind.wrap .u32 (decI o w).Imm) = some ((w / 2147483648 % 2 * 2147483648 ||| w / 2097152 % 1024 * 2097152 ||| w / 1048576 % 2 * 1048576 ||| w / 4096 % 256 * 4096 : Nat) : Int) := by
    rw [shp_form ⟨by omega, ho.2⟩, show (decI o w).Imm = immF (formOf o) w from rfl, e, immN_u32]
    exact num74 w
  have bn : (w / 2147483648 % 2 * 2147483648 ||| w / 2097152 % 1024 * 2097152 ||| w / 1048576 % 2 * 1048576 ||| w / 4096 % 256 * 4096) < 4294967296 := Nat.lt_of_le_of_lt (Nat.le_trans Nat.right_le_or (Nat.le_of_eq hor)) hw
  rw [Enc_or (dec_right hf) (of_shp (o := o) ⟨by omega, ho.2⟩) c1 c2 c3 hd ha hb kn h1 h2 h3 (Nat.mod_lt _ (by decide)) (by decide) (by decide) bn, hor]
theorem fit66 {w : Nat} (hw : w < 4294967296) {o : Int} (e : formOf o = 66) : Fits o w ↔ w % 128 = cN o ∧ w / 4096 % 8 = tN o := by
  unfold Fits
  rw [e]
  omega
theorem wd66 {w : Nat} (hw : w < 4294967296) {o : Int} (ho : 1 ≤ o ∧ o ≤ 45) (e : formOf o = 66) : ∃ v : Nat, ref02_Word (decI o w) = some (v : Int) ∧ (v = w ↔ Fits o w) := by
  obtain ⟨⟨c1, c2, c3⟩, ⟨h1, h2, h3⟩, ⟨k1, k2, k3⟩, hf, z1, z2⟩ := op_parts ho
  have hs : sN o = 0 := z2 (by rw [e]; decide) (by rw [e]; decide)
  have hS := sum66 (c := cN o) (t := tN o) (s := sN o) hw h1 h2 h3
  have hN : sprN (formOf o) w = w / 2147483648 % 2 * 2147483648 + w / 33554432 % 64 * 33554432 + w / 256 % 16 * 256 + w / 128 % 2 * 128 := by rw [e]; rfl
  have hd : (decI o w).Rd = ((0 : Nat) : Int) := by unfold decI; rw [e]; rfl
  have ha : (decI o w).Rs1 = ((w / 32768 % 32 : Nat) : Int) := by unfold decI; rw [e]; rfl
  have hb : (decI o w).Rs2 = ((w / 1048576 % 32 : Nat) : Int) := by unfold decI; rw [e]; rfl
  have kn := Spread_eq (w := w) hf
  rw [hN] at kn
  rw [hs] at k3
  exact ⟨_, Word_sum hd ha hb k1 k2 k3 kn hS.1, hS.2.trans (fit66 hw e).symm⟩
theorem ed66 {w : Nat} (hw : w < 4294967296) {o : Int} (ho : 1 ≤ o ∧ o ≤ 45) (e : formOf o = 66) (hF : Fits o w) : inst_Encode (decI o w) = some ((w : Int), (0 : Int)) := by
  obtain ⟨⟨c1, c2, c3⟩, ⟨h1, h2, h3⟩, ⟨k1, k2, k3⟩, hf, z1, z2⟩ := op_parts ho
  have hs : sN o = 0 := z2 (by rw [e]; decide) (by rw [e]; decide)
  have hC := (fit66 hw e).1 hF
  have hor := or66 hw
  have hd : (decI o w).Rd = ((0 : Nat) : Int) := by unfold decI; rw [e]; rfl
  have ha : (decI o w).Rs1 = ((w / 32768 % 32 : Nat) : Int) := by unfold decI; rw [e]; rfl
  have hb : (decI o w).Rs2 = ((w / 1048576 % 32 : Nat) : Int) := by unfold decI; rw [e]; rfl
  rw [← hC.1] at c1 h1
  rw [← hC.2] at c2 h2
  rw [hs] at c3 h3
  have kn : inst_number (shp o).form (IntKind.wrap .u32 (decI o w).Imm) = some ((w / 2147483648 % 2 * 2147483648 ||| w / 33554432 % 64 * 33554432 ||| w / 256 % 16 * 256 ||| w / 128 % 2 * 128 : Nat) : Int) := by
    rw [shp_form ⟨by omega, ho.2⟩, show (decI o w).Imm = immF (formOf o) w from rfl, e, immN_u32]
    exact num66 w
  have bn : (w / 2147483648 % 2 * 2147483648 ||| w / 33554432 % 64 * 33554432 ||| w / 256 % 16 * 256 ||| w / 128 % 2 * 128) < 4294967296 := Nat.lt_of_le_of_lt (Nat.le_trans Nat.right_le_or (Nat.le_of_eq hor)) hw
  rw [Enc_or (dec_right hf) (of_shp (o := o) ⟨by omega, ho.2⟩) c1 c2 c3 hd ha hb kn h1 h2 h3 (by decide) (Nat.mod_lt _ (by decide)) (Nat.mod_lt _ (by decide)) bn, hor]
theorem fit83 {w : Nat} (hw : w < 4294967296) {o : Int} (e : formOf o = 83) : Fits o w ↔ w % 128 = cN o ∧ w / 4096 % 8 = tN o := by
  unfold Fits
  rw [e]
  omega
theorem wd83 {w : Nat} (hw : w < 4294967296) {o : Int} (ho : 1 ≤ o ∧ o ≤ 45) (e : formOf o = 83) : ∃ v : Nat, ref02_Word (decI o w) = some (v : Int) ∧ (v = w ↔ Fits o w) := by
  obtain ⟨⟨c1, c2, c3⟩, ⟨h1, h2, h3⟩, ⟨k1, k2, k3⟩, hf, z1, z2⟩ := op_parts ho
  have hs : sN o = 0 := z2 (by rw [e]; decide) (by rw [e]; decide)
  have hS := sum83 (c := cN o) (t := tN o) (s := sN o) hw h1 h2 h3
  have hN : sprN (formOf o) w = w / 128 % 32 * 128 + w / 33554432 % 128 * 33554432 := by rw [e]; rfl
  have hd : (decI o w).Rd = ((0 : Nat) : Int) := by unfold decI; rw [e]; rfl
  have ha : (decI o w).Rs1 = ((w / 32768 % 32 : Nat) : Int) := by unfold decI; rw [e]; rfl
  have hb : (decI o w).Rs2 = ((w / 1048576 % 32 : Nat) : Int) := by unfold decI; rw [e]; rfl
  have kn := Spread_eq (w := w) hf
  rw [hN] at kn
  rw [hs] at k3
  exact ⟨_, Word_sum hd ha hb k1 k2 k3 kn hS.1, hS.2.trans (fit83 hw e).symm⟩
theorem ed83 {w : Nat} (hw : w < 4294967296) {o : Int} (ho : 1 ≤ o ∧ o ≤ 45) (e : formOf o = 83) (hF : Fits o w) : inst_Encode (decI o w) = some ((w : Int), (0 : Int)) := by
  obtain ⟨⟨c1, c2, c3⟩, ⟨h1, h2, h3⟩, ⟨k1, k2, k3⟩, hf, z1, z2⟩ := op_parts ho
  have hs : sN o = 0 := z2 (by rw [e]; decide) (by rw [e]; decide)
  have hC := (fit83 hw e).1 hF
  have hor := or83 hw
  have hd : (decI o w).Rd = ((0 : Nat) : Int) := by unfold decI; rw [e]; rfl
  have ha : (decI o w).Rs1 = ((w / 32768 % 32 : Nat) : Int) := by unfold decI; rw [e]; rfl
  have hb : (decI o w).Rs2 = ((w / 1048576 % 32 : Nat) : Int) := by unfold decI; rw [e]; rfl
  rw [← hC.1] at c1 h1
  rw [← hC.2] at c2 h2
  rw [hs] at c3 h3
  have kn : inst_number (shp o).form (IntKind.wrap .u32 (decI o w).Imm) = some ((w / 33554432 % 128 * 33554432 ||| w / 128 % 32 * 128 : Nat) : Int) := by
    rw [shp_form ⟨by omega, ho.2⟩, show (decI o w).Imm = immF (formOf o) w from rfl, e, immN_u32]
    exact num83 w
  have bn : (w / 33554432 % 128 * 33554432 ||| w / 128 % 32 * 128) < 4294967296 := Nat.lt_of_le_of_lt (Nat.le_trans Nat.right_le_or (Nat.le_of_eq hor)) hw
  rw [Enc_or (dec_right hf) (of_shp (o := o) ⟨by omega, ho.2⟩) c1 c2 c3 hd ha hb kn h1 h2 h3 (by decide) (Nat.mod_lt _ (by decide)) (Nat.mod_lt _ (by decide)) bn, hor]
theorem fit73 {w : Nat} (hw : w < 4294967296) {o : Int} (e : formOf o = 73) : Fits o w ↔ w % 128 = cN o ∧ w / 4096 % 8 = tN o := by
  unfold Fits
  rw [e]
  omega
theorem wd73 {w : Nat} (hw : w < 4294967296) {o : Int} (ho : 1 ≤ o ∧ o ≤ 45) (e : formOf o = 73) : ∃ v : Nat, ref02_Word (decI o w) = some (v : Int) ∧ (v = w ↔ Fits o w) := by
  obtain ⟨⟨c1, c2, c3⟩, ⟨h1, h2, h3⟩, ⟨k1, k2, k3⟩, hf, z1, z2⟩ := op_parts ho
  have hs : sN o = 0 := z2 (by rw [e]; decide) (by rw [e]; decide)
  have hS := sum73 (c := cN o) (t := tN o) (s := sN o) hw h1 h2 h3
  have hN : sprN (formOf o) w = w / 1048576 % 4096 * 1048576 := by rw [e]; rfl
  have hd : (decI o w).Rd = ((w / 128 % 32 : Nat) : Int) := by unfold decI; rw [e]; rfl
  have ha : (decI o w).Rs1 = ((w / 32768 % 32 : Nat) : Int) := by unfold decI; rw [e]; rfl
  have hb : (decI o w).Rs2 = ((0 : Nat) : Int) := by unfold decI; rw [e]; rfl
  have kn := Spread_eq (w := w) hf
  rw [hN] at kn
  rw [hs] at k3
  exact ⟨_, Word_sum hd ha hb k1 k2 k3 kn hS.1, hS.2.trans (fit73 hw e).symm⟩
theorem ed73 {w : Nat} (hw : w < 4294967296) {o : Int} (ho : 1 ≤ o ∧ o ≤ 45) (e : formOf o = 73) (hF : Fits o w) : inst_Encode (decI o w) = some ((w : Int), (0 : Int)) := by
  obtain ⟨⟨c1, c2, c3⟩, ⟨h1, h2, h3⟩, ⟨k1, k2, k3⟩, hf, z1, z2⟩ := op_parts ho
  have hs : sN o = 0 := z2 (by rw [e]; decide) (by rw [e]; decide)
  have hC := (fit73 hw e).1 hF
  have hor := or73 hw
  have hd : (decI o w).Rd = ((w / 128 % 32 : Nat) : Int) := by unfold decI; rw [e]; rfl
  have ha : (decI o w).Rs1 = ((w / 32768 % 32 : Nat) : Int) := by unfold decI; rw [e]; rfl
  have hb : (decI o w).Rs2 = ((0 : Nat) : Int) := by unfold decI; rw [e]; rfl
  rw [← hC.1] at c1 h1
  rw [← hC.2] at c2 h2
  rw [hs] at c3 h3
  have kn : inst_number (shp o).form (IntKind.wrap .u32 (decI o w).Imm) = some ((w / 1048576 % 4096 * 1048576 : Nat) : Int) := by
    rw [shp_form ⟨by omega, ho.2⟩, show (decI o w).Imm = immF (formOf o) w from rfl, e, immN_u32]
    exact num73 w
  have bn : (w / 1048576 % 4096 * 1048576) < 4294967296 := Nat.lt_of_le_of_lt (Nat.le_trans Nat.right_le_or (Nat.le_of_eq hor)) hw
  rw [Enc_or (dec_right hf) (of_shp (o := o) ⟨by omega, ho.2⟩) c1 c2 c3 hd ha hb kn h1 h2 h3 (Nat.mod_lt _ (by decide)) (Nat.mod_lt _ (by decide)) (by decide) bn, hor]
theorem Word_dec {w : Nat} (hw : w < 4294967296) {o : Int} (ho : 1 ≤ o ∧ o ≤ 45) : ∃ v : Nat, ref02_Word (decI o w) = some (v : Int) ∧ (v = w ↔ Fits o w) := by
  rcases forms o with e | e | e | e | e | e | e | e
  · exact absurd e (op_parts ho).2.2.2.1
  · exact wd82 hw ho e
  · exact wd85 hw ho e
  · exact wd74 hw ho e
  · exact wd66 hw ho e
  · exact wd83 hw ho e
  · exact wd73 hw ho e
  · exact wd72 hw ho e
theorem Enc_dec {w : Nat} (hw : w < 4294967296) {o : Int} (ho : 1 ≤ o ∧ o ≤ 45) (hF : Fits o w) : inst_Encode (decI o w) = some ((w : Int), (0 : Int)) := by
  rcases forms o with e | e | e | e | e | e | e | e
  · exact absurd e (op_parts ho).2.2.2.1
  · exact ed82 hw ho e hF
  · exact ed85 hw ho e hF
  · exact ed74 hw ho e hF
  · exact ed66 hw ho e hF
  · exact ed83 hw ho e hF
  · exact ed73 hw ho e hF
  · exact ed72 hw ho e hF

/-! The loops. -/
/-- The first instruction whose codes a word has. -/
def decO (w : Nat) : Option Int := ((List.range 45).findIdx? fun (k : Nat) => decide (Fits ((k : Int) + 1) w)).map fun k => (k : Int) + 1
theorem decO_some {w : Nat} {o : Int} (h : decO w = some o) : (1 ≤ o ∧ o ≤ 45) ∧ Fits o w := by
  unfold decO at h
  cases hf : (List.range 45).findIdx? fun (k : Nat) => decide (Fits ((k : Int) + 1) w) with
  | none => rw [hf] at h; cases h
  | some k =>
    rw [hf] at h
    obtain rfl : (k : Int) + 1 = o := by simpa using h
    obtain ⟨hk, hp, _⟩ := List.findIdx?_eq_some_iff_getElem.1 hf
    rw [List.length_range] at hk
    rw [List.getElem_range] at hp
    exact ⟨⟨by omega, by omega⟩, of_decide_eq_true hp⟩
def decR (w : Nat) : GInst × Int := match decO w with
  | some o => (decI o w, 0)
  | none => (⟨0, 0, 0, 0, 0⟩, 3)
theorem dec_loop {w : Nat} {body : Int → Option (Lp Int (GInst × Int))} {K : Lp Int (GInst × Int) → Option (GInst × Int)} (hs : ∀ o, 1 ≤ o ∧ o ≤ 45 → body o = some (bif decide (Fits o w) then .ret (decI o w, 0) else .go (IntKind.wrap .i64 (o + 1)))) (he : body 46 = some (.brk 46))
    (h1 : K (.brk 46) = some (⟨0, 0, 0, 0, 0⟩, 3)) (h2 : ∀ r, K (.ret r) = some r) : (loopM body NN 1).bind K = some (decR w) := by
  unfold decR decO
  have hw : ∀ k : Nat, k < 45 → IntKind.wrap .i64 ((k : Int) + 1 + 1) = ((k + 1 : Nat) : Int) + 1 := fun k hk => by rw [w64 (by omega)]; omega
  cases hf : (List.range 45).findIdx? fun (k : Nat) => decide (Fits ((k : Int) + 1) w) with
  | none =>
    have hn := List.findIdx?_eq_none_iff.1 hf
    refine run_bind (fun k => (k : Int) + 1) 45 (.brk 46) rfl (by omega) (fun k hk => ?_) (by rw [show (((45 : Nat) : Int) + 1) = 46 from rfl]; exact he) trivial h1
    rw [hs _ (by omega), hn k (List.mem_range.2 hk), cond_false, hw k hk]
  | some i =>
    obtain ⟨hi, hp, hlt⟩ := List.findIdx?_eq_some_iff_getElem.1 hf
    rw [List.length_range] at hi
    rw [List.getElem_range] at hp
    refine run_bind (fun k => (k : Int) + 1) i (.ret (decI ((i : Int) + 1) w, 0)) rfl (by omega) (fun k hk => ?_) ?_ trivial (h2 _)
    · have := hlt k hk
      rw [List.getElem_range] at this
      rw [hs _ (by omega), show decide (Fits ((k : Int) + 1) w) = false by simpa using this, cond_false, hw k (by omega)]
    · rw [hs _ (by omega), hp, cond_true]
theorem Decode_eq {w : Nat} (hw : w < 4294967296) : inst_Decode (w : Int) = some (decR w) := by
  unfold inst_Decode
  rw [show inst_table = some tbl1 from rfl, Option.bind_some]
  unfold lenOk
  rw [if_pos (show tbl1.length = 46 from rfl), Option.bind_some]
  refine dec_loop (fun o ho => ?_) ?_ rfl (fun _ => rfl)
  · obtain ⟨_, _, _, hf, _, _⟩ := op_parts ho
    rw [c1 (dt ho.2), shp_idx ⟨by omega, ho.2⟩, Option.bind_some, fits_eq hw ho, Option.bind_some]
    cases decide (Fits o w) with
    | false => rfl
    | true =>
      have b1 : inst_bits (w : Int) 7 5 = some ((w / 128 % 32 : Nat) : Int) := ibP hw (by decide) (by decide) (by decide) (by decide)
      have b2 : inst_bits (w : Int) 15 5 = some ((w / 32768 % 32 : Nat) : Int) := ibP hw (by decide) (by decide) (by decide) (by decide)
      have b3 : inst_bits (w : Int) 20 5 = some ((w / 1048576 % 32 : Nat) : Int) := ibP hw (by decide) (by decide) (by decide) (by decide)
      have i1 : IntKind.wrap .i64 ((w / 128 % 32 : Nat) : Int) = ((w / 128 % 32 : Nat) : Int) := w64 (by omega)
      have i2 : IntKind.wrap .i64 ((w / 32768 % 32 : Nat) : Int) = ((w / 32768 % 32 : Nat) : Int) := w64 (by omega)
      have i3 : IntKind.wrap .i64 ((w / 1048576 % 32 : Nat) : Int) = ((w / 1048576 % 32 : Nat) : Int) := w64 (by omega)
      rw [Bool.not_true, cond_false, shp_form ⟨by omega, ho.2⟩, told_eq hw, Option.bind_some, needs_eq o hf, Option.bind_some, b1, b2, b3]
      unfold decI
      clear b1 b2 b3
      generalize ((w / 128 % 32 : Nat) : Int) = x at *
      generalize ((w / 32768 % 32 : Nat) : Int) = y at *
      generalize ((w / 1048576 % 32 : Nat) : Int) = z at *
      cases hasD (formOf o) <;> cases has1 (formOf o) <;> cases has2 (formOf o) <;> simp only [jn, cond_true, cond_false, Option.bind_some, i1, i2, i3]
  · rfl
theorem rDecode_eq {w : Nat} (hw : w < 4294967296) : ref02_Decode (w : Int) = some (decR w) := by
  unfold ref02_Decode
  rw [show IntKind.wrap .i64 (w : Int) = (w : Int) from w64 (by omega)]
  refine dec_loop (fun o ho => ?_) ?_ rfl (fun _ => rfl)
  · obtain ⟨_, _, _, hf, _, _⟩ := op_parts ho
    have m1 : ref02_move (w : Int) 7 11 0 = some ((w / 128 % 32 * 1 : Nat) : Int) := mvP hw (.inr ⟨by omega, rfl⟩) (by decide) (by decide) (by decide) (by decide) (by decide)
    have m2 : ref02_move (w : Int) 15 19 0 = some ((w / 32768 % 32 * 1 : Nat) : Int) := mvP hw (.inr ⟨by omega, rfl⟩) (by decide) (by decide) (by decide) (by decide) (by decide)
    have m3 : ref02_move (w : Int) 20 24 0 = some ((w / 1048576 % 32 * 1 : Nat) : Int) := mvP hw (.inr ⟨by omega, rfl⟩) (by decide) (by decide) (by decide) (by decide) (by decide)
    rw [Nat.mul_one] at m1 m2 m3
    obtain ⟨v, hv, hq⟩ := Word_dec hw ho
    have hR : ref02_Right_2 (decI o w) = some true := by
      rw [show ref02_Right_2 = ref02_Right from rfl, rRight_eq, dec_right hf]
    have fin : ((ref02_Right_2 (decI o w)).bind fun y9 => bif y9 then ((ref02_Word (decI o w)).bind fun y10 => bif y10 == (w : Int) then (some (Lp.ret (decI o w, (0 : Int)))) else (some (Lp.go (IntKind.wrap .i64 (o + 1))))) else (some (Lp.go (IntKind.wrap .i64 (o + 1)))) : Option (Lp Int (GInst × Int))) = some (bif decide (Fits o w) then .ret (decI o w, 0) else .go (IntKind.wrap .i64 (o + 1))) := by
      rw [hR, Option.bind_some, cond_true, hv, Option.bind_some, beqn]
      by_cases hF : Fits o w
      · rw [dt hF, dt (hq.2 hF)]; rfl
      · rw [df hF, df (fun e => hF (hq.1 e))]; rfl
    rw [← fin, c1 (dt ho.2), rForm_eq, Option.bind_some, Gather_eq hw, Option.bind_some, rhas1, rhas2, rhas3, m1, m2, m3]
    clear m1 m2 m3 fin hv hq
    unfold decI
    generalize ((w / 128 % 32 : Nat) : Int) = x at *
    generalize ((w / 32768 % 32 : Nat) : Int) = y at *
    generalize ((w / 1048576 % 32 : Nat) : Int) = z at *
    cases hasD (formOf o) <;> cases has1 (formOf o) <;> cases has2 (formOf o) <;> simp only [jn, cond_true, cond_false, Option.bind_some]
  · rfl
end Go.Proofs.YtcmncppbonaaeaaGreatDoor
