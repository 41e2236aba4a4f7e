/- A part of the proof: XT3, XT4, XT5, XT6, XT7, XT8, XT9. -/
import Derived.Test.YtncecheccihjoaaP1
/- T3 -/
namespace Go.Proofs.Ytncecheccihjoaa.TT3
open Go Go.Proofs.Fw Go.Shelf
theorem en134 : Enters Go.Proofs.Try.prog 134 := enters_of Go.Proofs.Try.func134 (by kernel_rfl) rfl
theorem en87 : Enters Go.Proofs.Try.prog 87 := enters_of Go.Proofs.Try.func87 (by kernel_rfl) rfl
theorem fl116_0 : fldI Go.Proofs.Try.prog 116 0 = some 0 := by kernel_rfl
theorem fl35_0 : fldI Go.Proofs.Try.prog 35 0 = some 0 := by kernel_rfl
theorem fl35_1 : fldI Go.Proofs.Try.prog 35 1 = some 1 := by kernel_rfl
theorem fl35_2 : fldI Go.Proofs.Try.prog 35 2 = some 2 := by kernel_rfl
theorem fl38_0 : fldI Go.Proofs.Try.prog 38 0 = some 0 := by kernel_rfl
theorem fl38_2 : fldI Go.Proofs.Try.prog 38 2 = some 4 := by kernel_rfl
theorem fl38_5 : fldI Go.Proofs.Try.prog 38 5 = some 7 := by kernel_rfl
theorem mixed : Go.Proofs.Try.prog.follows .mixedOrders = true := by kernel_rfl
theorem sl36 : sliI Go.Proofs.Try.prog 36 = some (116, 2, 24) := by kernel_rfl
theorem ty35 : tyI Go.Proofs.Try.prog 35 = some (3, true) := by kernel_rfl
theorem ty36 : tyI Go.Proofs.Try.prog 36 = some (1, false) := by kernel_rfl
theorem ty9 : tyI Go.Proofs.Try.prog 9 = some (1, false) := by kernel_rfl
theorem u36 : Go.Proofs.Try.prog.underlying 36 = some (.slice 116) := by kernel_rfl
theorem u9 : Go.Proofs.Try.prog.underlying 9 = some (.string) := by kernel_rfl
end Go.Proofs.Ytncecheccihjoaa.TT3
namespace Go.Proofs.Ytncecheccihjoaa
open Go Go.Proofs.Fw Go.Proofs
set_option linter.unusedVariables false
set_option linter.unusedSimpArgs false
set_option maxRecDepth 20000
set_option maxHeartbeats 4000000
theorem text_spec (k : Key) (H : AH) (hk : keyFits k) : ACalls Try.prog [] 134 [encKey k] H (fun x H' => x = .str (textOf k) ∧ H' = H) := by
  obtain ⟨k1, k2, k3⟩ := hk
  refine ACalls.enter (n := 13) Try.func134 rfl rfl (Nat.le_of_ble_eq_true rfl) ?_
  refine AS.seq ?_
  refine AS.region rfl ?_
  refine AS.box rfl rfl rfl rfl rfl ?_
  intro b1
  refine AS.assign rfl rfl rfl rfl ?_
  refine AS.opsEnd ?_
  refine AS.seq ?_
  refine AS.region rfl ?_
  refine AS.fieldAddr rfl rfl rfl rfl TT3.fl35_1 ?_
  refine AS.load rfl rfl rfl rfl TT3.ty9 rfl rfl rfl ?_
  refine AS.bin rfl rfl rfl rfl rfl (BinR.concat (by (try simp only [size_app]); have h1 : slash.size = 1 := rfl; have h2 : (⟨#[47]⟩ : ByteArray).size = 1 := rfl; omega) rfl) ?_
  refine AS.fieldAddr rfl rfl rfl rfl TT3.fl35_0 ?_
  refine AS.load rfl rfl rfl rfl TT3.ty9 rfl rfl rfl ?_
  refine AS.bin rfl rfl rfl rfl rfl (BinR.concat (by (try simp only [size_app]); have h1 : slash.size = 1 := rfl; have h2 : (⟨#[47]⟩ : ByteArray).size = 1 := rfl; omega) rfl) ?_
  refine AS.bin rfl rfl rfl rfl rfl (BinR.concat (by (try simp only [size_app]); have h1 : slash.size = 1 := rfl; have h2 : (⟨#[47]⟩ : ByteArray).size = 1 := rfl; omega) rfl) ?_
  refine AS.fieldAddr rfl rfl rfl rfl TT3.fl35_2 ?_
  refine AS.load rfl rfl rfl rfl TT3.ty9 rfl rfl rfl ?_
  refine AS.bin rfl rfl rfl rfl rfl (BinR.concat (by (try simp only [size_app]); have h1 : slash.size = 1 := rfl; have h2 : (⟨#[47]⟩ : ByteArray).size = 1 := rfl; omega) rfl) ?_
  refine AS.assign rfl rfl rfl rfl ?_
  refine AS.opsEnd ?_
  refine AS.retW Try.func134 rfl (.tmp rfl (.nil)) ?_
  refine RWk.drop [_] rfl ⟨?_, rfl⟩
  rfl
theorem label_less (a b : Key) (H : AH) (ha : keyFits a) (hb : keyFits b) : ACalls Try.prog [] 102 [encKey a, encKey b] H (fun x H' => x = .bool (keyLess a b) ∧ H' = H) := by
  refine ACalls.enter (n := 10) Try.func102 rfl rfl (Nat.le_of_ble_eq_true rfl) ?_
  refine AS.seq ?_
  refine AS.region rfl ?_
  refine AS.box rfl rfl rfl rfl rfl ?_
  intro b2
  refine AS.box rfl rfl rfl rfl rfl ?_
  intro b3
  refine AS.assign rfl rfl rfl rfl ?_
  refine AS.opsEnd ?_
  refine AS.seq ?_
  refine SA.start1 TT3.mixed rfl ?_
  refine SA.rd 0 [2] rfl (fun env rest next => AS.load rfl rfl rfl rfl TT3.ty35 rfl rfl rfl next) ?_
  refine SA.rd 1 [5] rfl (fun env rest next => AS.callP rfl rfl rfl rfl TT3.en134 (text_spec _ _ (by assumption)) next) ?_
  refine SA.rd 2 [3] rfl (fun env rest next => AS.load rfl rfl rfl rfl TT3.ty35 rfl rfl rfl next) ?_
  refine SA.rd 3 [7] rfl (fun env rest next => AS.callP rfl rfl rfl rfl TT3.en134 (text_spec _ _ (by assumption)) next) ?_
  refine SA.rd 4 [6, 8] rfl (fun env rest next => AS.bin rfl rfl rfl rfl rfl (BinR.slss rfl) next) ?_
  refine SA.rd 5 [9] rfl (fun env rest next => AS.assign rfl rfl rfl rfl next) ?_
  refine SA.done rfl rfl rfl ?_
  refine AS.retW Try.func102 rfl (.tmp rfl (.nil)) ?_
  refine RWk.drop [_, _] rfl ⟨?_, rfl⟩
  rfl
theorem before_spec (a b : ByteArray) (H : AH) (ha : a.size ≤ 1000) (hb : b.size ≤ 1000) : ACalls Try.prog [] 87 [.str a, .str b] H (fun x H' => x = .bool (sless a b) ∧ H' = H) := by
  refine ACalls.enter (n := 37) Try.func87 rfl rfl (Nat.le_of_ble_eq_true rfl) ?_
  refine AS.seq ?_
  refine AS.region rfl ?_
  refine AS.assign rfl rfl rfl rfl ?_
  refine AS.opsEnd ?_
  refine AS.seq ?_
  refine AS.seq ?_
  refine AS.region rfl ?_
  refine AS.assign rfl rfl rfl rfl ?_
  refine AS.opsEnd ?_
  refine AS.block ?_
  refine AS.loopI (α := Nat) (fun i => i ≤ a.size ∧ i ≤ b.size ∧ sameTo a b i) (fun i => a.size - i) (fun i => [(5, .int .i64 i)]) [(0, _), (1, _)] (fun i => _) 0 ⟨Nat.zero_le _, Nat.zero_le _, fun _ _ _ h => by omega⟩ (.cons rfl (.cons rfl (.cons rfl (.nil)))) rfl (fun i hI l0_ih => ?_)
  refine AS.seq ?_
  refine AS.seq ?_
  refine AS.region rfl ?_
  refine AS.move rfl rfl rfl rfl ?_
  refine AS.move rfl rfl rfl rfl ?_
  refine AS.len rfl rfl rfl rfl (by first | exact lenT_str TT3.u9 | exact lenT_ms TT3.u9 | (rw [TT3.u9]; rfl)) rfl rfl ?_
  refine AS.bin rfl rfl rfl rfl rfl (BinR.lss rfl) ?_
  refine AS.move rfl rfl rfl rfl ?_
  refine AS.splitT 10 rfl (fun g10 => ?_) (fun g10 => ?_)
  · refine AS.move rfl rfl rfl rfl ?_
    refine AS.move rfl rfl rfl rfl ?_
    refine AS.len rfl rfl rfl rfl (by first | exact lenT_str TT3.u9 | exact lenT_ms TT3.u9 | (rw [TT3.u9]; rfl)) rfl rfl ?_
    refine AS.bin rfl rfl rfl rfl rfl (BinR.lss rfl) ?_
    refine AS.pick rfl rfl rfl rfl rfl ?_
    refine AS.opsEnd ?_
    refine AS.cond rfl (fun hc0 => ?_) (fun hc0 => ?_)
    · have h1 : i < a.size := by simp only [decide_eq_true_eq] at g10; omega
      have h2 : i < b.size := by simp only [decide_eq_true_eq] at hc0; omega
      refine AS.skip ?_
      refine AS.seq ?_
      refine AS.block ?_
      refine AS.seq ?_
      refine SA.start1 TT3.mixed rfl ?_
      refine SA.rd 0 [0] rfl (fun env rest next => AS.move rfl rfl rfl rfl next) ?_
      refine SA.rd 1 [5] rfl (fun env rest next => AS.move rfl rfl rfl rfl next) ?_
      refine SA.rd 2 [18, 19] rfl (fun env rest next => AS.strAt rfl rfl rfl rfl rfl TT3.u9 i rfl h1 next) ?_
      refine SA.rd 3 [1] rfl (fun env rest next => AS.move rfl rfl rfl rfl next) ?_
      refine SA.rd 4 [5] rfl (fun env rest next => AS.move rfl rfl rfl rfl next) ?_
      refine SA.rd 5 [21, 22] rfl (fun env rest next => AS.strAt rfl rfl rfl rfl rfl TT3.u9 i rfl h2 next) ?_
      refine SA.rd 6 [20, 23] rfl (fun env rest next => AS.bin rfl rfl rfl rfl rfl (BinR.neq rfl) next) ?_
      refine SA.done rfl rfl rfl ?_
      refine AS.cond rfl (fun hc1 => ?_) (fun hc1 => ?_)
      · refine AS.seq ?_
        refine SA.start1 TT3.mixed rfl ?_
        refine SA.rd 0 [0] rfl (fun env rest next => AS.move rfl rfl rfl rfl next) ?_
        refine SA.rd 1 [5] rfl (fun env rest next => AS.move rfl rfl rfl rfl next) ?_
        refine SA.rd 2 [25, 26] rfl (fun env rest next => AS.strAt rfl rfl rfl rfl rfl TT3.u9 i rfl h1 next) ?_
        refine SA.rd 3 [1] rfl (fun env rest next => AS.move rfl rfl rfl rfl next) ?_
        refine SA.rd 4 [5] rfl (fun env rest next => AS.move rfl rfl rfl rfl next) ?_
        refine SA.rd 5 [28, 29] rfl (fun env rest next => AS.strAt rfl rfl rfl rfl rfl TT3.u9 i rfl h2 next) ?_
        refine SA.rd 6 [27, 30] rfl (fun env rest next => AS.bin rfl rfl rfl rfl rfl (BinR.lss rfl) next) ?_
        refine SA.rd 7 [31] rfl (fun env rest next => AS.assign rfl rfl rfl rfl next) ?_
        refine SA.done rfl rfl rfl ?_
        refine AS.retW Try.func87 rfl (.tmp rfl (.nil)) ?_
        refine RWk.drop [] rfl ⟨?_, rfl⟩
        have h3 : ((a[i]'h1).toNat : Int) ≠ ((b[i]'h2).toNat : Int) := of_decide_eq_true hc1
        rw [sless_ne hI.2.2 h1 h2 h3]; rfl
      · refine AS.skip ?_
        refine AS.inBlock ?_
        refine AS.region rfl ?_
        refine AS.move rfl rfl rfl rfl ?_
        refine AS.bin rfl rfl rfl rfl rfl (BinR.add (w64 (by omega) (by omega))) ?_
        refine AS.assign rfl rfl rfl rfl ?_
        refine AS.opsEnd ?_
        have h3 : ((a[i]'h1).toNat : Int) = ((b[i]'h2).toNat : Int) := by simpa using hc1
        exact AS.nextI (l0_ih (i + 1) ⟨h1, h2, sameTo_succ hI.2.2 h1 h2 h3⟩ (by omega)) [] (.cons rfl (.cons rfl (.cons rfl (.nil)))) rfl
    · refine AS.exit rfl ?_
      refine AS.seq ?_
      refine AS.region rfl ?_
      refine AS.move rfl rfl rfl rfl ?_
      refine AS.len rfl rfl rfl rfl (by first | exact lenT_str TT3.u9 | exact lenT_ms TT3.u9 | (rw [TT3.u9]; rfl)) rfl rfl ?_
      refine AS.move rfl rfl rfl rfl ?_
      refine AS.len rfl rfl rfl rfl (by first | exact lenT_str TT3.u9 | exact lenT_ms TT3.u9 | (rw [TT3.u9]; rfl)) rfl rfl ?_
      refine AS.bin rfl rfl rfl rfl rfl (BinR.lss rfl) ?_
      refine AS.assign rfl rfl rfl rfl ?_
      refine AS.opsEnd ?_
      refine AS.retW Try.func87 rfl (.tmp rfl (.nil)) ?_
      refine RWk.drop [] rfl ⟨?_, rfl⟩
      rw [sless_len hI.2.2 (by simp only [decide_eq_true_eq, decide_eq_false_iff_not] at g10 hc0; omega)]; rfl
  · refine AS.pass rfl rfl rfl ?_
    refine AS.pass rfl rfl rfl ?_
    refine AS.pass rfl rfl rfl ?_
    refine AS.pass rfl rfl rfl ?_
    refine AS.pick rfl rfl rfl rfl rfl ?_
    refine AS.opsEnd ?_
    refine AS.condF rfl ?_
    refine AS.exit rfl ?_
    refine AS.seq ?_
    refine AS.region rfl ?_
    refine AS.move rfl rfl rfl rfl ?_
    refine AS.len rfl rfl rfl rfl (by first | exact lenT_str TT3.u9 | exact lenT_ms TT3.u9 | (rw [TT3.u9]; rfl)) rfl rfl ?_
    refine AS.move rfl rfl rfl rfl ?_
    refine AS.len rfl rfl rfl rfl (by first | exact lenT_str TT3.u9 | exact lenT_ms TT3.u9 | (rw [TT3.u9]; rfl)) rfl rfl ?_
    refine AS.bin rfl rfl rfl rfl rfl (BinR.lss rfl) ?_
    refine AS.assign rfl rfl rfl rfl ?_
    refine AS.opsEnd ?_
    refine AS.retW Try.func87 rfl (.tmp rfl (.nil)) ?_
    refine RWk.drop [] rfl ⟨?_, rfl⟩
    rw [sless_len hI.2.2 (by simp only [decide_eq_false_iff_not] at g10; omega)]; rfl
-- UNUSED annotation cond
theorem ref_less (a b : Key) (H : AH) (ha : keyFits a) (hb : keyFits b) : ACalls Try.prog [] 126 [encKey a, encKey b] H (fun x H' => x = .bool (keyLess a b) ∧ H' = H) := by
  obtain ⟨k1, k2, k3⟩ := ha
  obtain ⟨m1, m2, m3⟩ := hb
  refine ACalls.enter (n := 26) Try.func126 rfl rfl (Nat.le_of_ble_eq_true rfl) ?_
  refine AS.seq ?_
  refine AS.region rfl ?_
  refine AS.box rfl rfl rfl rfl rfl ?_
  intro b2
  refine AS.box rfl rfl rfl rfl rfl ?_
  intro b3
  refine AS.assign rfl rfl rfl rfl ?_
  refine AS.opsEnd ?_
  refine AS.seq ?_
  refine AS.region rfl ?_
  refine AS.fieldAddr rfl rfl rfl rfl TT3.fl35_1 ?_
  refine AS.load rfl rfl rfl rfl TT3.ty9 rfl rfl rfl ?_
  refine AS.bin rfl rfl rfl rfl rfl (BinR.concat (by (try simp only [size_app]); have h1 : slash.size = 1 := rfl; have h2 : (⟨#[47]⟩ : ByteArray).size = 1 := rfl; omega) rfl) ?_
  refine AS.fieldAddr rfl rfl rfl rfl TT3.fl35_0 ?_
  refine AS.load rfl rfl rfl rfl TT3.ty9 rfl rfl rfl ?_
  refine AS.bin rfl rfl rfl rfl rfl (BinR.concat (by (try simp only [size_app]); have h1 : slash.size = 1 := rfl; have h2 : (⟨#[47]⟩ : ByteArray).size = 1 := rfl; omega) rfl) ?_
  refine AS.bin rfl rfl rfl rfl rfl (BinR.concat (by (try simp only [size_app]); have h1 : slash.size = 1 := rfl; have h2 : (⟨#[47]⟩ : ByteArray).size = 1 := rfl; omega) rfl) ?_
  refine AS.fieldAddr rfl rfl rfl rfl TT3.fl35_2 ?_
  refine AS.load rfl rfl rfl rfl TT3.ty9 rfl rfl rfl ?_
  refine AS.bin rfl rfl rfl rfl rfl (BinR.concat (by (try simp only [size_app]); have h1 : slash.size = 1 := rfl; have h2 : (⟨#[47]⟩ : ByteArray).size = 1 := rfl; omega) rfl) ?_
  refine AS.fieldAddr rfl rfl rfl rfl TT3.fl35_1 ?_
  refine AS.load rfl rfl rfl rfl TT3.ty9 rfl rfl rfl ?_
  refine AS.bin rfl rfl rfl rfl rfl (BinR.concat (by (try simp only [size_app]); have h1 : slash.size = 1 := rfl; have h2 : (⟨#[47]⟩ : ByteArray).size = 1 := rfl; omega) rfl) ?_
  refine AS.fieldAddr rfl rfl rfl rfl TT3.fl35_0 ?_
  refine AS.load rfl rfl rfl rfl TT3.ty9 rfl rfl rfl ?_
  refine AS.bin rfl rfl rfl rfl rfl (BinR.concat (by (try simp only [size_app]); have h1 : slash.size = 1 := rfl; have h2 : (⟨#[47]⟩ : ByteArray).size = 1 := rfl; omega) rfl) ?_
  refine AS.bin rfl rfl rfl rfl rfl (BinR.concat (by (try simp only [size_app]); have h1 : slash.size = 1 := rfl; have h2 : (⟨#[47]⟩ : ByteArray).size = 1 := rfl; omega) rfl) ?_
  refine AS.fieldAddr rfl rfl rfl rfl TT3.fl35_2 ?_
  refine AS.load rfl rfl rfl rfl TT3.ty9 rfl rfl rfl ?_
  refine AS.bin rfl rfl rfl rfl rfl (BinR.concat (by (try simp only [size_app]); have h1 : slash.size = 1 := rfl; have h2 : (⟨#[47]⟩ : ByteArray).size = 1 := rfl; omega) rfl) ?_
  refine AS.callP rfl rfl rfl rfl TT3.en87 (before_spec (textOf a) (textOf b) _ (by rw [textOf_size]; omega) (by rw [textOf_size]; omega)) ?_
  refine AS.assign rfl rfl rfl rfl ?_
  refine AS.opsEnd ?_
  refine AS.retW Try.func126 rfl (.tmp rfl (.nil)) ?_
  refine RWk.drop [_, _] rfl ⟨?_, rfl⟩
  rfl
theorem fits05 (o : Object) (H : AH) : ACalls Try.prog [] 62 [encObj o] H (fun x H' => x = .bool (objFitsB o) ∧ H' = H) := by
  refine ACalls.enter (n := 50) Try.func62 rfl rfl (Nat.le_of_ble_eq_true rfl) ?_
  refine AS.seq ?_
  refine AS.region rfl ?_
  refine AS.box rfl rfl rfl rfl rfl ?_
  intro b1
  refine AS.assign rfl rfl rfl rfl ?_
  refine AS.opsEnd ?_
  refine AS.seq ?_
  refine AS.seq ?_
  refine AS.region rfl ?_
  refine AS.fieldAddr rfl rfl rfl rfl TT3.fl38_0 ?_
  refine AS.fieldAddr rfl rfl rfl rfl TT3.fl35_0 ?_
  refine AS.load rfl rfl rfl rfl TT3.ty9 rfl rfl rfl ?_
  refine AS.len rfl rfl rfl rfl (by first | exact lenT_str TT3.u9 | exact lenT_ms TT3.u9 | (rw [TT3.u9]; rfl)) rfl rfl ?_
  refine AS.bin rfl rfl rfl rfl rfl (BinR.gtr rfl) ?_
  refine AS.move rfl rfl rfl rfl ?_
  refine AS.splitT 9 rfl (fun g9 => ?_) (fun g9 => ?_)
  · refine AS.pass rfl rfl rfl ?_
    refine AS.pass rfl rfl rfl ?_
    refine AS.pass rfl rfl rfl ?_
    refine AS.pass rfl rfl rfl ?_
    refine AS.pass rfl rfl rfl ?_
    refine AS.pick rfl rfl rfl rfl rfl ?_
    refine AS.move rfl rfl rfl rfl ?_
    refine AS.pass rfl rfl rfl ?_
    refine AS.pass rfl rfl rfl ?_
    refine AS.pass rfl rfl rfl ?_
    refine AS.pass rfl rfl rfl ?_
    refine AS.pass rfl rfl rfl ?_
    refine AS.pick rfl rfl rfl rfl rfl ?_
    refine AS.move rfl rfl rfl rfl ?_
    refine AS.pass rfl rfl rfl ?_
    refine AS.pass rfl rfl rfl ?_
    refine AS.pass rfl rfl rfl ?_
    refine AS.pass rfl rfl rfl ?_
    refine AS.pick rfl rfl rfl rfl rfl ?_
    refine AS.move rfl rfl rfl rfl ?_
    refine AS.pass rfl rfl rfl ?_
    refine AS.pass rfl rfl rfl ?_
    refine AS.pass rfl rfl rfl ?_
    refine AS.pass rfl rfl rfl ?_
    refine AS.pick rfl rfl rfl rfl rfl ?_
    refine AS.opsEnd ?_
    refine AS.condT rfl ?_
    refine AS.seq ?_
    refine AS.region rfl ?_
    refine AS.assign rfl rfl rfl rfl ?_
    refine AS.opsEnd ?_
    refine AS.retW Try.func62 rfl (.tmp rfl (.nil)) ?_
    refine RWk.drop [_] rfl ⟨?_, rfl⟩
    show AV.bool _ = AV.bool _
    (simp only [objFitsB, g9]) <;> rfl
  · refine AS.fieldAddr rfl rfl rfl rfl TT3.fl38_0 ?_
    refine AS.fieldAddr rfl rfl rfl rfl TT3.fl35_1 ?_
    refine AS.load rfl rfl rfl rfl TT3.ty9 rfl rfl rfl ?_
    refine AS.len rfl rfl rfl rfl (by first | exact lenT_str TT3.u9 | exact lenT_ms TT3.u9 | (rw [TT3.u9]; rfl)) rfl rfl ?_
    refine AS.bin rfl rfl rfl rfl rfl (BinR.gtr rfl) ?_
    refine AS.pick rfl rfl rfl rfl rfl ?_
    refine AS.move rfl rfl rfl rfl ?_
    refine AS.splitT 16 rfl (fun g16 => ?_) (fun g16 => ?_)
    · refine AS.pass rfl rfl rfl ?_
      refine AS.pass rfl rfl rfl ?_
      refine AS.pass rfl rfl rfl ?_
      refine AS.pass rfl rfl rfl ?_
      refine AS.pass rfl rfl rfl ?_
      refine AS.pick rfl rfl rfl rfl rfl ?_
      refine AS.move rfl rfl rfl rfl ?_
      refine AS.pass rfl rfl rfl ?_
      refine AS.pass rfl rfl rfl ?_
      refine AS.pass rfl rfl rfl ?_
      refine AS.pass rfl rfl rfl ?_
      refine AS.pick rfl rfl rfl rfl rfl ?_
      refine AS.move rfl rfl rfl rfl ?_
      refine AS.pass rfl rfl rfl ?_
      refine AS.pass rfl rfl rfl ?_
      refine AS.pass rfl rfl rfl ?_
      refine AS.pass rfl rfl rfl ?_
      refine AS.pick rfl rfl rfl rfl rfl ?_
      refine AS.opsEnd ?_
      refine AS.condT rfl ?_
      refine AS.seq ?_
      refine AS.region rfl ?_
      refine AS.assign rfl rfl rfl rfl ?_
      refine AS.opsEnd ?_
      refine AS.retW Try.func62 rfl (.tmp rfl (.nil)) ?_
      refine RWk.drop [_] rfl ⟨?_, rfl⟩
      show AV.bool _ = AV.bool _
      (simp only [objFitsB, g9, g16]) <;> rfl
    · refine AS.fieldAddr rfl rfl rfl rfl TT3.fl38_0 ?_
      refine AS.fieldAddr rfl rfl rfl rfl TT3.fl35_2 ?_
      refine AS.load rfl rfl rfl rfl TT3.ty9 rfl rfl rfl ?_
      refine AS.len rfl rfl rfl rfl (by first | exact lenT_str TT3.u9 | exact lenT_ms TT3.u9 | (rw [TT3.u9]; rfl)) rfl rfl ?_
      refine AS.bin rfl rfl rfl rfl rfl (BinR.gtr rfl) ?_
      refine AS.pick rfl rfl rfl rfl rfl ?_
      refine AS.move rfl rfl rfl rfl ?_
      refine AS.splitT 23 rfl (fun g23 => ?_) (fun g23 => ?_)
      · refine AS.pass rfl rfl rfl ?_
        refine AS.pass rfl rfl rfl ?_
        refine AS.pass rfl rfl rfl ?_
        refine AS.pass rfl rfl rfl ?_
        refine AS.pick rfl rfl rfl rfl rfl ?_
        refine AS.move rfl rfl rfl rfl ?_
        refine AS.pass rfl rfl rfl ?_
        refine AS.pass rfl rfl rfl ?_
        refine AS.pass rfl rfl rfl ?_
        refine AS.pass rfl rfl rfl ?_
        refine AS.pick rfl rfl rfl rfl rfl ?_
        refine AS.opsEnd ?_
        refine AS.condT rfl ?_
        refine AS.seq ?_
        refine AS.region rfl ?_
        refine AS.assign rfl rfl rfl rfl ?_
        refine AS.opsEnd ?_
        refine AS.retW Try.func62 rfl (.tmp rfl (.nil)) ?_
        refine RWk.drop [_] rfl ⟨?_, rfl⟩
        show AV.bool _ = AV.bool _
        (simp only [objFitsB, g9, g16, g23]) <;> rfl
      · refine AS.fieldAddr rfl rfl rfl rfl TT3.fl38_2 ?_
        refine AS.load rfl rfl rfl rfl TT3.ty9 rfl rfl rfl ?_
        refine AS.len rfl rfl rfl rfl (by first | exact lenT_str TT3.u9 | exact lenT_ms TT3.u9 | (rw [TT3.u9]; rfl)) rfl rfl ?_
        refine AS.bin rfl rfl rfl rfl rfl (BinR.gtr rfl) ?_
        refine AS.pick rfl rfl rfl rfl rfl ?_
        refine AS.move rfl rfl rfl rfl ?_
        refine AS.splitT 29 rfl (fun g29 => ?_) (fun g29 => ?_)
        · refine AS.pass rfl rfl rfl ?_
          refine AS.pass rfl rfl rfl ?_
          refine AS.pass rfl rfl rfl ?_
          refine AS.pass rfl rfl rfl ?_
          refine AS.pick rfl rfl rfl rfl rfl ?_
          refine AS.opsEnd ?_
          refine AS.condT rfl ?_
          refine AS.seq ?_
          refine AS.region rfl ?_
          refine AS.assign rfl rfl rfl rfl ?_
          refine AS.opsEnd ?_
          refine AS.retW Try.func62 rfl (.tmp rfl (.nil)) ?_
          refine RWk.drop [_] rfl ⟨?_, rfl⟩
          show AV.bool _ = AV.bool _
          (simp only [objFitsB, g9, g16, g23, g29]) <;> rfl
        · refine AS.fieldAddr rfl rfl rfl rfl TT3.fl38_5 ?_
          refine AS.load rfl rfl rfl rfl TT3.ty36 rfl rfl rfl ?_
          refine AS.len rfl rfl rfl rfl (by first | exact lenT_sl TT3.u36 | exact lenT_ms TT3.u36 | (rw [TT3.u36]; rfl)) rfl (lenMap _ _) ?_
          refine AS.bin rfl rfl rfl rfl rfl (BinR.gtr rfl) ?_
          refine AS.pick rfl rfl rfl rfl rfl ?_
          refine AS.opsEnd ?_
          refine AS.cond rfl (fun hc0 => ?_) (fun hc0 => ?_)
          · refine AS.seq ?_
            refine AS.region rfl ?_
            refine AS.assign rfl rfl rfl rfl ?_
            refine AS.opsEnd ?_
            refine AS.retW Try.func62 rfl (.tmp rfl (.nil)) ?_
            refine RWk.drop [_] rfl ⟨?_, rfl⟩
            show AV.bool _ = AV.bool _
            (simp only [objFitsB, g9, g16, g23, g29, hc0]) <;> rfl
          · refine AS.skip ?_
            refine AS.seq ?_
            refine AS.seq ?_
            refine AS.region rfl ?_
            refine AS.assign rfl rfl rfl rfl ?_
            refine AS.opsEnd ?_
            have hl : ¬ (40 : Int) < (o.charge.length : Int) := of_decide_eq_false hc0
            refine AS.block ?_
            refine AS.loopI (α := Nat) (fun i => i ≤ o.charge.length ∧ ∀ j, j < i → j < o.charge.length → nameFits o.charge j = true) (fun i => o.charge.length - i) (fun i => [(3, .int .i64 i)]) [(1, _)] (fun i => _) 0 ⟨Nat.zero_le _, fun i h => by omega⟩ (.cons rfl (.cons rfl (.nil))) rfl (fun i hI l0_ih => ?_)
            refine AS.seq ?_
            refine AS.seq ?_
            refine AS.region rfl ?_
            refine AS.move rfl rfl rfl rfl ?_
            refine AS.fieldAddr rfl rfl rfl rfl TT3.fl38_5 ?_
            refine AS.load rfl rfl rfl rfl TT3.ty36 rfl rfl rfl ?_
            refine AS.len rfl rfl rfl rfl (by first | exact lenT_sl TT3.u36 | exact lenT_ms TT3.u36 | (rw [TT3.u36]; rfl)) rfl (lenMap _ _) ?_
            refine AS.bin rfl rfl rfl rfl rfl (BinR.lss rfl) ?_
            refine AS.opsEnd ?_
            refine AS.cond rfl (fun hc1 => ?_) (fun hc1 => ?_)
            · have hi : i < o.charge.length := by simp only [decide_eq_true_eq] at hc1; omega
              obtain ⟨r, hr⟩ := getAt hi
              refine AS.skip ?_
              refine AS.seq ?_
              refine AS.block ?_
              refine AS.seq ?_
              refine AS.region rfl ?_
              refine AS.fieldAddr rfl rfl rfl rfl TT3.fl38_5 ?_
              refine AS.load rfl rfl rfl rfl TT3.ty36 rfl rfl rfl ?_
              refine AS.move rfl rfl rfl rfl ?_
              refine AS.indexAddr rfl rfl rfl rfl rfl TT3.sl36 (Int.natCast_nonneg _) (map_get _ _ hr) rfl ?_
              refine AS.ifieldAddr rfl rfl rfl rfl TT3.fl116_0 ?_
              refine AS.iload rfl rfl rfl rfl TT3.ty9 rfl rfl rfl ?_
              refine AS.len rfl rfl rfl rfl (by first | exact lenT_str TT3.u9 | exact lenT_ms TT3.u9 | (rw [TT3.u9]; rfl)) rfl rfl ?_
              refine AS.bin rfl rfl rfl rfl rfl (BinR.gtr rfl) ?_
              refine AS.opsEnd ?_
              refine AS.cond rfl (fun hc2 => ?_) (fun hc2 => ?_)
              · refine AS.seq ?_
                refine AS.region rfl ?_
                refine AS.assign rfl rfl rfl rfl ?_
                refine AS.opsEnd ?_
                refine AS.retW Try.func62 rfl (.tmp rfl (.nil)) ?_
                refine RWk.drop [_] rfl ⟨?_, rfl⟩
                have e3 := allR_no hi (p := nameFits o.charge) (by simp only [nameFits, hr, hc2]; rfl)
                show AV.bool _ = AV.bool _
                (simp only [objFitsB, e3, Bool.and_false]) <;> rfl
              · refine AS.skip ?_
                refine AS.inBlock ?_
                refine AS.region rfl ?_
                refine AS.move rfl rfl rfl rfl ?_
                refine AS.bin rfl rfl rfl rfl rfl (BinR.add (w64 (by omega) (by omega))) ?_
                refine AS.assign rfl rfl rfl rfl ?_
                refine AS.opsEnd ?_
                exact AS.nextI (l0_ih (i + 1) ⟨hi, upToL hI.2 (by simp only [nameFits, hr, hc2]; rfl)⟩ (by omega)) [] (.cons rfl (.cons rfl (.nil))) rfl
            · have hall := allR_yes hI.2 (by simp only [decide_eq_false_iff_not] at hc1; omega)
              refine AS.exit rfl ?_
              refine AS.seq ?_
              refine AS.region rfl ?_
              refine AS.assign rfl rfl rfl rfl ?_
              refine AS.opsEnd ?_
              refine AS.retW Try.func62 rfl (.tmp rfl (.nil)) ?_
              refine RWk.drop [_] rfl ⟨?_, rfl⟩
              show AV.bool _ = AV.bool _
              (simp only [objFitsB, hall, g9, g16, g23, g29, hc0, hc1]) <;> rfl
end Go.Proofs.Ytncecheccihjoaa
/- T4 -/
namespace Go.Proofs.Ytncecheccihjoaa.TT4
open Go Go.Proofs.Fw Go.Shelf
theorem en63 : Enters Go.Proofs.Try.prog 63 := enters_of Go.Proofs.Try.func63 (by kernel_rfl) rfl
theorem en71 : Enters Go.Proofs.Try.prog 71 := enters_of Go.Proofs.Try.func71 (by kernel_rfl) rfl
theorem en85 : Enters Go.Proofs.Try.prog 85 := enters_of Go.Proofs.Try.func85 (by kernel_rfl) rfl
theorem en86 : Enters Go.Proofs.Try.prog 86 := enters_of Go.Proofs.Try.func86 (by kernel_rfl) rfl
theorem en87 : Enters Go.Proofs.Try.prog 87 := enters_of Go.Proofs.Try.func87 (by kernel_rfl) rfl
theorem fl116_0 : fldI Go.Proofs.Try.prog 116 0 = some 0 := by kernel_rfl
theorem fl116_1 : fldI Go.Proofs.Try.prog 116 1 = some 1 := by kernel_rfl
theorem fl38_0 : fldI Go.Proofs.Try.prog 38 0 = some 0 := by kernel_rfl
theorem fl38_1 : fldI Go.Proofs.Try.prog 38 1 = some 3 := by kernel_rfl
theorem fl38_2 : fldI Go.Proofs.Try.prog 38 2 = some 4 := by kernel_rfl
theorem fl38_5 : fldI Go.Proofs.Try.prog 38 5 = some 7 := by kernel_rfl
theorem mixed : Go.Proofs.Try.prog.follows .mixedOrders = true := by kernel_rfl
theorem sl36 : sliI Go.Proofs.Try.prog 36 = some (116, 2, 24) := by kernel_rfl
theorem ty116 : tyI Go.Proofs.Try.prog 116 = some (2, true) := by kernel_rfl
theorem ty2 : tyI Go.Proofs.Try.prog 2 = some (1, false) := by kernel_rfl
theorem ty35 : tyI Go.Proofs.Try.prog 35 = some (3, true) := by kernel_rfl
theorem ty36 : tyI Go.Proofs.Try.prog 36 = some (1, false) := by kernel_rfl
theorem ty9 : tyI Go.Proofs.Try.prog 9 = some (1, false) := by kernel_rfl
theorem u36 : Go.Proofs.Try.prog.underlying 36 = some (.slice 116) := by kernel_rfl
theorem z116 : zI Go.Proofs.Try.prog 116 = some (.agg #[(.string ⟨#[]⟩), (.int .i64 0)]) := by kernel_rfl
end Go.Proofs.Ytncecheccihjoaa.TT4
namespace Go.Proofs.Ytncecheccihjoaa
open Go Go.Proofs.Fw Go.Proofs
set_option linter.unusedVariables false
set_option linter.unusedSimpArgs false
set_option maxRecDepth 20000
set_option maxHeartbeats 4000000
theorem object_right (o : Object) (H : AH) (hl : o.charge.length ≤ 1000000) : ACalls Try.prog [] 69 [encObj o] H (fun x H' => x = .bool (objRight o) ∧ H' = H) := by
  refine ACalls.enter (n := 66) Try.func69 rfl rfl (Nat.le_of_ble_eq_true rfl) ?_
  refine AS.seq ?_
  refine AS.region rfl ?_
  refine AS.box rfl rfl rfl rfl rfl ?_
  intro b1
  refine AS.assign rfl rfl rfl rfl ?_
  refine AS.opsEnd ?_
  refine AS.seq ?_
  refine AS.seq ?_
  refine AS.region rfl ?_
  refine AS.fieldAddr rfl rfl rfl rfl TT4.fl38_5 ?_
  refine AS.load rfl rfl rfl rfl TT4.ty36 rfl rfl rfl ?_
  refine AS.len rfl rfl rfl rfl (by first | exact lenT_sl TT4.u36 | exact lenT_ms TT4.u36 | (rw [TT4.u36]; rfl)) rfl (lenMap _ _) ?_
  refine AS.move rfl rfl rfl rfl ?_
  refine AS.opsEnd ?_
  refine AS.block ?_
  refine AS.loopI (α := Nat) (fun i => i ≤ o.charge.length ∧ ∀ j, j < i → j < o.charge.length → resAt o.charge j = true) (fun i => o.charge.length - i) (fun i => [(8, .int .i64 i)]) [(1, _), (7, _)] (fun i => _) 0 ⟨Nat.zero_le _, fun i h => by omega⟩ (.cons rfl (.cons rfl (.cons rfl (.nil)))) rfl (fun i hI l0_ih => ?_)
  refine AS.seq ?_
  refine AS.region rfl ?_
  refine AS.bin rfl rfl rfl rfl rfl (BinR.lss rfl) ?_
  refine AS.opsEnd ?_
  refine AS.seq ?_
  refine AS.cond rfl (fun hc0 => ?_) (fun hc0 => ?_)
  · have hi : i < o.charge.length := by simp only [decide_eq_true_eq] at hc0; omega
    obtain ⟨r, hr⟩ := getAt hi
    obtain ⟨q, hq⟩ := getAt (l := o.charge) (i := i - 1) (by omega)
    refine AS.skip ?_
    refine AS.seq ?_
    refine AS.block ?_
    refine AS.seq ?_
    refine AS.region rfl ?_
    refine AS.move rfl rfl rfl rfl ?_
    refine AS.assign rfl rfl rfl rfl ?_
    refine AS.opsEnd ?_
    refine AS.seq ?_
    refine AS.region rfl ?_
    refine AS.fieldAddr rfl rfl rfl rfl TT4.fl38_5 ?_
    refine AS.load rfl rfl rfl rfl TT4.ty36 rfl rfl rfl ?_
    refine AS.move rfl rfl rfl rfl ?_
    refine AS.indexAddr rfl rfl rfl rfl rfl TT4.sl36 (Int.natCast_nonneg _) (map_get _ _ hr) rfl ?_
    refine AS.iload rfl rfl rfl rfl TT4.ty116 rfl rfl rfl ?_
    refine AS.allocZ rfl rfl rfl TT4.z116 rfl ?_
    intro b4
    refine AS.store rfl rfl rfl rfl rfl rfl TT4.ty116 rfl rfl ?_
    refine AS.opsEnd ?_
    refine AS.seq ?_
    refine SA.start1 TT4.mixed rfl ?_
    refine SA.rd 0 [4] rfl (fun env rest next => AS.fieldAddr rfl rfl rfl rfl TT4.fl116_0 next) ?_
    refine SA.rd 1 [16] rfl (fun env rest next => AS.load rfl rfl rfl rfl TT4.ty9 rfl rfl rfl next) ?_
    refine SA.rd 2 [17] rfl (fun env rest next => AS.callP rfl rfl rfl rfl TT4.en85 (label_right _ _) next) ?_
    refine SA.rd 3 [18] rfl (fun env rest next => AS.not rfl rfl rfl rfl rfl next) ?_
    refine SA.rd 4 [19] rfl (fun env rest next => AS.move rfl rfl rfl rfl next) ?_
    refine SA.splitT (fun g20 => ?_) (fun g20 => ?_)
    · rw [Bool.not_eq_true'] at g20
      refine SA.rd 5 [4, 20] rfl (fun env rest next => AS.pass rfl rfl rfl next) ?_
      refine SA.rd 6 [20, 21] rfl (fun env rest next => AS.pass rfl rfl rfl next) ?_
      refine SA.rd 7 [20, 22] rfl (fun env rest next => AS.pass rfl rfl rfl next) ?_
      refine SA.rd 8 [20, 23] rfl (fun env rest next => AS.pick rfl rfl rfl rfl rfl next) ?_
      refine SA.rd 9 [24] rfl (fun env rest next => AS.move rfl rfl rfl rfl next) ?_
      refine SA.rd 10 [3, 25] rfl (fun env rest next => AS.pass rfl rfl rfl next) ?_
      refine SA.rd 11 [25, 26] rfl (fun env rest next => AS.pass rfl rfl rfl next) ?_
      refine SA.rd 12 [25, 27] rfl (fun env rest next => AS.pass rfl rfl rfl next) ?_
      refine SA.rd 13 [1, 28] rfl (fun env rest next => AS.pass rfl rfl rfl next) ?_
      refine SA.rd 14 [28, 29] rfl (fun env rest next => AS.pass rfl rfl rfl next) ?_
      refine SA.rd 15 [3, 28] rfl (fun env rest next => AS.pass rfl rfl rfl next) ?_
      refine SA.rd 16 [28, 31] rfl (fun env rest next => AS.pass rfl rfl rfl next) ?_
      refine SA.rd 17 [28, 30, 32] rfl (fun env rest next => AS.pass rfl rfl rfl next) ?_
      refine SA.rd 18 [28, 33] rfl (fun env rest next => AS.pass rfl rfl rfl next) ?_
      refine SA.rd 19 [28, 34] rfl (fun env rest next => AS.pass rfl rfl rfl next) ?_
      refine SA.rd 20 [4, 28] rfl (fun env rest next => AS.pass rfl rfl rfl next) ?_
      refine SA.rd 21 [28, 36] rfl (fun env rest next => AS.pass rfl rfl rfl next) ?_
      refine SA.rd 22 [28, 35, 37] rfl (fun env rest next => AS.pass rfl rfl rfl next) ?_
      refine SA.rd 23 [25, 28, 38] rfl (fun env rest next => AS.pass rfl rfl rfl next) ?_
      refine SA.rd 24 [25, 39] rfl (fun env rest next => AS.pick rfl rfl rfl rfl rfl next) ?_
      refine SA.done rfl rfl rfl ?_
      refine AS.condT rfl ?_
      refine AS.seq ?_
      have e3 : resAt o.charge i = false := by rw [resAt_eq hr hq]; (simp only [Bool.and_true, Bool.true_and, Bool.not_true, Bool.not_false, hc0, g20]) <;> rfl
      refine AS.region rfl ?_
      refine AS.assign rfl rfl rfl rfl ?_
      refine AS.opsEnd ?_
      refine AS.retW Try.func69 rfl (.tmp rfl (.nil)) ?_
      refine RWk.drop [_, _] rfl ⟨?_, rfl⟩
      rw [objRight_no (chargeOk_no hi e3)]; rfl
    · rw [Bool.not_eq_false'] at g20
      refine SA.rd 5 [4, 20] rfl (fun env rest next => AS.fieldAddr rfl rfl rfl rfl TT4.fl116_1 next) ?_
      refine SA.rd 6 [20, 21] rfl (fun env rest next => AS.load rfl rfl rfl rfl TT4.ty2 rfl rfl rfl next) ?_
      refine SA.rd 7 [20, 22] rfl (fun env rest next => AS.bin rfl rfl rfl rfl rfl (BinR.lss rfl) next) ?_
      refine SA.rd 8 [20, 23] rfl (fun env rest next => AS.pick rfl rfl rfl rfl rfl next) ?_
      refine SA.rd 9 [24] rfl (fun env rest next => AS.move rfl rfl rfl rfl next) ?_
      refine SA.splitT (fun g25 => ?_) (fun g25 => ?_)
      · refine SA.rd 10 [3, 25] rfl (fun env rest next => AS.pass rfl rfl rfl next) ?_
        refine SA.rd 11 [25, 26] rfl (fun env rest next => AS.pass rfl rfl rfl next) ?_
        refine SA.rd 12 [25, 27] rfl (fun env rest next => AS.pass rfl rfl rfl next) ?_
        refine SA.rd 13 [1, 28] rfl (fun env rest next => AS.pass rfl rfl rfl next) ?_
        refine SA.rd 14 [28, 29] rfl (fun env rest next => AS.pass rfl rfl rfl next) ?_
        refine SA.rd 15 [3, 28] rfl (fun env rest next => AS.pass rfl rfl rfl next) ?_
        refine SA.rd 16 [28, 31] rfl (fun env rest next => AS.pass rfl rfl rfl next) ?_
        refine SA.rd 17 [28, 30, 32] rfl (fun env rest next => AS.pass rfl rfl rfl next) ?_
        refine SA.rd 18 [28, 33] rfl (fun env rest next => AS.pass rfl rfl rfl next) ?_
        refine SA.rd 19 [28, 34] rfl (fun env rest next => AS.pass rfl rfl rfl next) ?_
        refine SA.rd 20 [4, 28] rfl (fun env rest next => AS.pass rfl rfl rfl next) ?_
        refine SA.rd 21 [28, 36] rfl (fun env rest next => AS.pass rfl rfl rfl next) ?_
        refine SA.rd 22 [28, 35, 37] rfl (fun env rest next => AS.pass rfl rfl rfl next) ?_
        refine SA.rd 23 [25, 28, 38] rfl (fun env rest next => AS.pass rfl rfl rfl next) ?_
        refine SA.rd 24 [25, 39] rfl (fun env rest next => AS.pick rfl rfl rfl rfl rfl next) ?_
        refine SA.done rfl rfl rfl ?_
        refine AS.condT rfl ?_
        refine AS.seq ?_
        have e3 : resAt o.charge i = false := by rw [resAt_eq hr hq]; (simp only [Bool.and_true, Bool.true_and, Bool.not_true, Bool.not_false, hc0, g20, g25]) <;> rfl
        refine AS.region rfl ?_
        refine AS.assign rfl rfl rfl rfl ?_
        refine AS.opsEnd ?_
        refine AS.retW Try.func69 rfl (.tmp rfl (.nil)) ?_
        refine RWk.drop [_, _] rfl ⟨?_, rfl⟩
        rw [objRight_no (chargeOk_no hi e3)]; rfl
      · refine SA.rd 10 [3, 25] rfl (fun env rest next => AS.move rfl rfl rfl rfl next) ?_
        refine SA.rd 11 [25, 26] rfl (fun env rest next => AS.bin rfl rfl rfl rfl rfl (BinR.gtr rfl) next) ?_
        refine SA.rd 12 [25, 27] rfl (fun env rest next => AS.move rfl rfl rfl rfl next) ?_
        refine SA.splitT (fun g28 => ?_) (fun g28 => ?_)
        · have hi0 : 0 < i := by simp only [decide_eq_true_eq] at g28; omega
          have hm1 : IntKind.i64.wrap ((i : Int) - 1) = ((i - 1 : Nat) : Int) := by rw [w64 (by omega) (by omega)]; omega
          refine SA.rd 13 [1, 28] rfl (fun env rest next => AS.fieldAddr rfl rfl rfl rfl TT4.fl38_5 next) ?_
          refine SA.rd 14 [28, 29] rfl (fun env rest next => AS.load rfl rfl rfl rfl TT4.ty36 rfl rfl rfl next) ?_
          refine SA.rd 15 [3, 28] rfl (fun env rest next => AS.move rfl rfl rfl rfl next) ?_
          refine SA.rd 16 [28, 31] rfl (fun env rest next => AS.bin rfl rfl rfl rfl rfl (BinR.sub (c := ((i - 1 : Nat) : Int)) hm1) next) ?_
          refine SA.rd 17 [28, 30, 32] rfl (fun env rest next => AS.indexAddr rfl rfl rfl rfl rfl TT4.sl36 (Int.natCast_nonneg _) (map_get _ _ hq) rfl next) ?_
          refine SA.rd 18 [28, 33] rfl (fun env rest next => AS.ifieldAddr rfl rfl rfl rfl TT4.fl116_0 next) ?_
          refine SA.rd 19 [28, 34] rfl (fun env rest next => AS.iload rfl rfl rfl rfl TT4.ty9 rfl rfl rfl next) ?_
          refine SA.rd 20 [4, 28] rfl (fun env rest next => AS.fieldAddr rfl rfl rfl rfl TT4.fl116_0 next) ?_
          refine SA.rd 21 [28, 36] rfl (fun env rest next => AS.load rfl rfl rfl rfl TT4.ty9 rfl rfl rfl next) ?_
          refine SA.rd 22 [28, 35, 37] rfl (fun env rest next => AS.bin rfl rfl rfl rfl rfl (BinR.sgeq rfl) next) ?_
          refine SA.rd 23 [25, 28, 38] rfl (fun env rest next => AS.pick rfl rfl rfl rfl rfl next) ?_
          refine SA.rd 24 [25, 39] rfl (fun env rest next => AS.pick rfl rfl rfl rfl rfl next) ?_
          refine SA.done rfl rfl rfl ?_
          refine AS.cond rfl (fun hc1 => ?_) (fun hc1 => ?_)
          · rw [Bool.not_eq_true'] at hc1
            refine AS.seq ?_
            have e3 : resAt o.charge i = false := by rw [resAt_eq hr hq]; (simp only [Bool.and_true, Bool.true_and, Bool.not_true, Bool.not_false, hc0, g20, g25, g28, hc1]) <;> rfl
            refine AS.region rfl ?_
            refine AS.assign rfl rfl rfl rfl ?_
            refine AS.opsEnd ?_
            refine AS.retW Try.func69 rfl (.tmp rfl (.nil)) ?_
            refine RWk.drop [_, _] rfl ⟨?_, rfl⟩
            rw [objRight_no (chargeOk_no hi e3)]; rfl
          · rw [Bool.not_eq_false'] at hc1
            refine AS.skip ?_
            refine AS.inBlock ?_
            have e3 : resAt o.charge i = true := by rw [resAt_eq hr hq]; (simp only [Bool.and_true, Bool.true_and, Bool.not_true, Bool.not_false, hc0, g20, g25, g28, hc1]) <;> rfl
            refine AS.region rfl ?_
            refine AS.bin rfl rfl rfl rfl rfl (BinR.add (w64 (by omega) (by omega))) ?_
            refine AS.move rfl rfl rfl rfl ?_
            refine AS.opsEnd ?_
            exact AS.nextI (l0_ih (i + 1) ⟨hi, upToL hI.2 e3⟩ (by omega)) [_] (.cons rfl (.cons rfl (.cons rfl (.nil)))) rfl
        · refine SA.rd 13 [1, 28] rfl (fun env rest next => AS.pass rfl rfl rfl next) ?_
          refine SA.rd 14 [28, 29] rfl (fun env rest next => AS.pass rfl rfl rfl next) ?_
          refine SA.rd 15 [3, 28] rfl (fun env rest next => AS.pass rfl rfl rfl next) ?_
          refine SA.rd 16 [28, 31] rfl (fun env rest next => AS.pass rfl rfl rfl next) ?_
          refine SA.rd 17 [28, 30, 32] rfl (fun env rest next => AS.pass rfl rfl rfl next) ?_
          refine SA.rd 18 [28, 33] rfl (fun env rest next => AS.pass rfl rfl rfl next) ?_
          refine SA.rd 19 [28, 34] rfl (fun env rest next => AS.pass rfl rfl rfl next) ?_
          refine SA.rd 20 [4, 28] rfl (fun env rest next => AS.pass rfl rfl rfl next) ?_
          refine SA.rd 21 [28, 36] rfl (fun env rest next => AS.pass rfl rfl rfl next) ?_
          refine SA.rd 22 [28, 35, 37] rfl (fun env rest next => AS.pass rfl rfl rfl next) ?_
          refine SA.rd 23 [25, 28, 38] rfl (fun env rest next => AS.pick rfl rfl rfl rfl rfl next) ?_
          refine SA.rd 24 [25, 39] rfl (fun env rest next => AS.pick rfl rfl rfl rfl rfl next) ?_
          refine SA.done rfl rfl rfl ?_
          refine AS.condF rfl ?_
          refine AS.skip ?_
          refine AS.inBlock ?_
          have e3 : resAt o.charge i = true := by rw [resAt_eq hr hq]; (simp only [Bool.and_true, Bool.true_and, Bool.not_true, Bool.not_false, hc0, g20, g25, g28]) <;> rfl
          refine AS.region rfl ?_
          refine AS.bin rfl rfl rfl rfl rfl (BinR.add (w64 (by omega) (by omega))) ?_
          refine AS.move rfl rfl rfl rfl ?_
          refine AS.opsEnd ?_
          exact AS.nextI (l0_ih (i + 1) ⟨hi, upToL hI.2 e3⟩ (by omega)) [_] (.cons rfl (.cons rfl (.cons rfl (.nil)))) rfl
  · have hall : chargeOk o.charge = true := allR_yes hI.2 (by simp only [decide_eq_false_iff_not] at hc0; omega)
    refine AS.exit rfl ?_
    refine AS.seq ?_
    refine AS.region rfl ?_
    refine AS.fieldAddr rfl rfl rfl rfl TT4.fl38_0 ?_
    refine AS.load rfl rfl rfl rfl TT4.ty35 rfl rfl rfl ?_
    refine AS.callP rfl rfl rfl rfl TT4.en71 (label_key _ _) ?_
    refine AS.move rfl rfl rfl rfl ?_
    refine AS.splitT 45 rfl (fun g45 => ?_) (fun g45 => ?_)
    · refine AS.fieldAddr rfl rfl rfl rfl TT4.fl38_1 ?_
      refine AS.load rfl rfl rfl rfl TT4.ty2 rfl rfl rfl ?_
      refine AS.bin rfl rfl rfl rfl rfl (BinR.geq rfl) ?_
      refine AS.pick rfl rfl rfl rfl rfl ?_
      refine AS.move rfl rfl rfl rfl ?_
      refine AS.splitT 50 rfl (fun g50 => ?_) (fun g50 => ?_)
      · refine AS.fieldAddr rfl rfl rfl rfl TT4.fl38_2 ?_
        refine AS.load rfl rfl rfl rfl TT4.ty9 rfl rfl rfl ?_
        refine AS.bin rfl rfl rfl rfl rfl (BinR.seql rfl) ?_
        refine AS.move rfl rfl rfl rfl ?_
        refine AS.splitT 54 rfl (fun g54 => ?_) (fun g54 => ?_)
        · refine AS.pass rfl rfl rfl ?_
          refine AS.pass rfl rfl rfl ?_
          refine AS.pass rfl rfl rfl ?_
          refine AS.pick rfl rfl rfl rfl rfl ?_
          refine AS.pick rfl rfl rfl rfl rfl ?_
          refine AS.move rfl rfl rfl rfl ?_
          refine AS.fieldAddr rfl rfl rfl rfl TT4.fl38_5 ?_
          refine AS.load rfl rfl rfl rfl TT4.ty36 rfl rfl rfl ?_
          refine AS.len rfl rfl rfl rfl (by first | exact lenT_sl TT4.u36 | exact lenT_ms TT4.u36 | (rw [TT4.u36]; rfl)) rfl (lenMap _ _) ?_
          refine AS.bin rfl rfl rfl rfl rfl (BinR.leq rfl) ?_
          refine AS.pick rfl rfl rfl rfl rfl ?_
          refine AS.assign rfl rfl rfl rfl ?_
          refine AS.opsEnd ?_
          refine AS.retW Try.func69 rfl (.tmp rfl (.nil)) ?_
          refine RWk.drop [_] rfl ⟨?_, rfl⟩
          show AV.bool _ = AV.bool _
          (simp only [objRight, clsOk, hall, Bool.and_true, Bool.true_and, Bool.true_or, Bool.false_or, hc0, g45, g50, g54]) <;> rfl
        · refine AS.fieldAddr rfl rfl rfl rfl TT4.fl38_2 ?_
          refine AS.load rfl rfl rfl rfl TT4.ty9 rfl rfl rfl ?_
          refine AS.callP rfl rfl rfl rfl TT4.en85 (label_right _ _) ?_
          refine AS.pick rfl rfl rfl rfl rfl ?_
          refine AS.pick rfl rfl rfl rfl rfl ?_
          refine AS.move rfl rfl rfl rfl ?_
          refine AS.splitT 60 rfl (fun g60 => ?_) (fun g60 => ?_)
          · refine AS.fieldAddr rfl rfl rfl rfl TT4.fl38_5 ?_
            refine AS.load rfl rfl rfl rfl TT4.ty36 rfl rfl rfl ?_
            refine AS.len rfl rfl rfl rfl (by first | exact lenT_sl TT4.u36 | exact lenT_ms TT4.u36 | (rw [TT4.u36]; rfl)) rfl (lenMap _ _) ?_
            refine AS.bin rfl rfl rfl rfl rfl (BinR.leq rfl) ?_
            refine AS.pick rfl rfl rfl rfl rfl ?_
            refine AS.assign rfl rfl rfl rfl ?_
            refine AS.opsEnd ?_
            refine AS.retW Try.func69 rfl (.tmp rfl (.nil)) ?_
            refine RWk.drop [_] rfl ⟨?_, rfl⟩
            show AV.bool _ = AV.bool _
            (simp only [objRight, clsOk, hall, Bool.and_true, Bool.true_and, Bool.true_or, Bool.false_or, hc0, g45, g50, g54, g60]) <;> rfl
          · refine AS.pass rfl rfl rfl ?_
            refine AS.pass rfl rfl rfl ?_
            refine AS.pass rfl rfl rfl ?_
            refine AS.pass rfl rfl rfl ?_
            refine AS.pick rfl rfl rfl rfl rfl ?_
            refine AS.assign rfl rfl rfl rfl ?_
            refine AS.opsEnd ?_
            refine AS.retW Try.func69 rfl (.tmp rfl (.nil)) ?_
            refine RWk.drop [_] rfl ⟨?_, rfl⟩
            show AV.bool _ = AV.bool _
            (simp only [objRight, clsOk, hall, Bool.and_true, Bool.true_and, Bool.true_or, Bool.false_or, hc0, g45, g50, g54, g60]) <;> rfl
      · refine AS.pass rfl rfl rfl ?_
        refine AS.pass rfl rfl rfl ?_
        refine AS.pass rfl rfl rfl ?_
        refine AS.pass rfl rfl rfl ?_
        refine AS.pass rfl rfl rfl ?_
        refine AS.pass rfl rfl rfl ?_
        refine AS.pass rfl rfl rfl ?_
        refine AS.pass rfl rfl rfl ?_
        refine AS.pick rfl rfl rfl rfl rfl ?_
        refine AS.move rfl rfl rfl rfl ?_
        refine AS.pass rfl rfl rfl ?_
        refine AS.pass rfl rfl rfl ?_
        refine AS.pass rfl rfl rfl ?_
        refine AS.pass rfl rfl rfl ?_
        refine AS.pick rfl rfl rfl rfl rfl ?_
        refine AS.assign rfl rfl rfl rfl ?_
        refine AS.opsEnd ?_
        refine AS.retW Try.func69 rfl (.tmp rfl (.nil)) ?_
        refine RWk.drop [_] rfl ⟨?_, rfl⟩
        show AV.bool _ = AV.bool _
        (simp only [objRight, clsOk, hall, Bool.and_true, Bool.true_and, Bool.true_or, Bool.false_or, hc0, g45, g50]) <;> rfl
    · refine AS.pass rfl rfl rfl ?_
      refine AS.pass rfl rfl rfl ?_
      refine AS.pass rfl rfl rfl ?_
      refine AS.pick rfl rfl rfl rfl rfl ?_
      refine AS.move rfl rfl rfl rfl ?_
      refine AS.pass rfl rfl rfl ?_
      refine AS.pass rfl rfl rfl ?_
      refine AS.pass rfl rfl rfl ?_
      refine AS.pass rfl rfl rfl ?_
      refine AS.pass rfl rfl rfl ?_
      refine AS.pass rfl rfl rfl ?_
      refine AS.pass rfl rfl rfl ?_
      refine AS.pass rfl rfl rfl ?_
      refine AS.pick rfl rfl rfl rfl rfl ?_
      refine AS.move rfl rfl rfl rfl ?_
      refine AS.pass rfl rfl rfl ?_
      refine AS.pass rfl rfl rfl ?_
      refine AS.pass rfl rfl rfl ?_
      refine AS.pass rfl rfl rfl ?_
      refine AS.pick rfl rfl rfl rfl rfl ?_
      refine AS.assign rfl rfl rfl rfl ?_
      refine AS.opsEnd ?_
      refine AS.retW Try.func69 rfl (.tmp rfl (.nil)) ?_
      refine RWk.drop [_] rfl ⟨?_, rfl⟩
      show AV.bool _ = AV.bool _
      (simp only [objRight, clsOk, hall, Bool.and_true, Bool.true_and, Bool.true_or, Bool.false_or, hc0, g45]) <;> rfl
theorem ref_object (o : Object) (H : AH) (hl : objFits o) : ACalls Try.prog [] 64 [encObj o] H (fun x H' => x = .bool (objRight o) ∧ H' = H) := by
  obtain ⟨hl1, hl2, hl3, hl4⟩ := hl
  have hl5 : ∀ (i : Nat) (r : Res), o.charge[i]? = some r → r.name.size ≤ 1000 := fun i r h => Nat.le_trans (hl4 i r h) (by decide)
  refine ACalls.enter (n := 79) Try.func64 rfl rfl (Nat.le_of_ble_eq_true rfl) ?_
  refine AS.seq ?_
  refine AS.region rfl ?_
  refine AS.box rfl rfl rfl rfl rfl ?_
  intro b1
  refine AS.assign rfl rfl rfl rfl ?_
  refine AS.opsEnd ?_
  refine AS.seq ?_
  refine AS.region rfl ?_
  refine AS.fieldAddr rfl rfl rfl rfl TT4.fl38_0 ?_
  refine AS.load rfl rfl rfl rfl TT4.ty35 rfl rfl rfl ?_
  refine AS.callP rfl rfl rfl rfl TT4.en63 (ref_key _ _) ?_
  refine AS.assign rfl rfl rfl rfl ?_
  refine AS.opsEnd ?_
  refine AS.seq ?_
  refine AS.region rfl ?_
  refine AS.fieldAddr rfl rfl rfl rfl TT4.fl38_2 ?_
  refine AS.load rfl rfl rfl rfl TT4.ty9 rfl rfl rfl ?_
  refine AS.callP rfl rfl rfl rfl TT4.en86 (ref_right _ _) ?_
  refine AS.assign rfl rfl rfl rfl ?_
  refine AS.opsEnd ?_
  refine AS.seq ?_
  refine AS.seq ?_
  refine AS.region rfl ?_
  refine AS.move rfl rfl rfl rfl ?_
  refine AS.not rfl rfl rfl rfl rfl ?_
  refine AS.move rfl rfl rfl rfl ?_
  refine AS.splitT 16 rfl (fun g16 => ?_) (fun g16 => ?_)
  · rw [Bool.not_eq_true'] at g16
    refine AS.pass rfl rfl rfl ?_
    refine AS.pass rfl rfl rfl ?_
    refine AS.pass rfl rfl rfl ?_
    refine AS.pass rfl rfl rfl ?_
    refine AS.pass rfl rfl rfl ?_
    refine AS.pass rfl rfl rfl ?_
    refine AS.pass rfl rfl rfl ?_
    refine AS.pick rfl rfl rfl rfl rfl ?_
    refine AS.move rfl rfl rfl rfl ?_
    refine AS.pass rfl rfl rfl ?_
    refine AS.pass rfl rfl rfl ?_
    refine AS.pass rfl rfl rfl ?_
    refine AS.pick rfl rfl rfl rfl rfl ?_
    refine AS.move rfl rfl rfl rfl ?_
    refine AS.pass rfl rfl rfl ?_
    refine AS.pass rfl rfl rfl ?_
    refine AS.pass rfl rfl rfl ?_
    refine AS.pass rfl rfl rfl ?_
    refine AS.pick rfl rfl rfl rfl rfl ?_
    refine AS.opsEnd ?_
    refine AS.condT rfl ?_
    refine AS.seq ?_
    refine AS.region rfl ?_
    refine AS.assign rfl rfl rfl rfl ?_
    refine AS.opsEnd ?_
    refine AS.retW Try.func64 rfl (.tmp rfl (.nil)) ?_
    refine RWk.drop [_] rfl ⟨?_, rfl⟩
    rw [objRight_alt]
    show AV.bool _ = AV.bool _
    (simp only [Bool.and_true, Bool.true_and, Bool.not_true, Bool.not_false, Bool.and_false, Bool.false_and, g16]) <;> rfl
  · rw [Bool.not_eq_false'] at g16
    refine AS.move rfl rfl rfl rfl ?_
    refine AS.not rfl rfl rfl rfl rfl ?_
    refine AS.move rfl rfl rfl rfl ?_
    refine AS.splitT 19 rfl (fun g19 => ?_) (fun g19 => ?_)
    · rw [Bool.not_eq_true'] at g19
      refine AS.fieldAddr rfl rfl rfl rfl TT4.fl38_2 ?_
      refine AS.load rfl rfl rfl rfl TT4.ty9 rfl rfl rfl ?_
      refine AS.bin rfl rfl rfl rfl rfl (BinR.sneq rfl) ?_
      refine AS.pick rfl rfl rfl rfl rfl ?_
      refine AS.pick rfl rfl rfl rfl rfl ?_
      refine AS.move rfl rfl rfl rfl ?_
      refine AS.splitT 25 rfl (fun g25 => ?_) (fun g25 => ?_)
      · refine AS.pass rfl rfl rfl ?_
        refine AS.pass rfl rfl rfl ?_
        refine AS.pass rfl rfl rfl ?_
        refine AS.pick rfl rfl rfl rfl rfl ?_
        refine AS.move rfl rfl rfl rfl ?_
        refine AS.pass rfl rfl rfl ?_
        refine AS.pass rfl rfl rfl ?_
        refine AS.pass rfl rfl rfl ?_
        refine AS.pass rfl rfl rfl ?_
        refine AS.pick rfl rfl rfl rfl rfl ?_
        refine AS.opsEnd ?_
        refine AS.condT rfl ?_
        refine AS.seq ?_
        refine AS.region rfl ?_
        refine AS.assign rfl rfl rfl rfl ?_
        refine AS.opsEnd ?_
        refine AS.retW Try.func64 rfl (.tmp rfl (.nil)) ?_
        refine RWk.drop [_] rfl ⟨?_, rfl⟩
        rw [objRight_alt]
        show AV.bool _ = AV.bool _
        (simp only [Bool.and_true, Bool.true_and, Bool.not_true, Bool.not_false, Bool.and_false, Bool.false_and, g16, g19, g25]) <;> rfl
      · refine AS.fieldAddr rfl rfl rfl rfl TT4.fl38_1 ?_
        refine AS.load rfl rfl rfl rfl TT4.ty2 rfl rfl rfl ?_
        refine AS.bin rfl rfl rfl rfl rfl (BinR.lss rfl) ?_
        refine AS.pick rfl rfl rfl rfl rfl ?_
        refine AS.move rfl rfl rfl rfl ?_
        refine AS.splitT 30 rfl (fun g30 => ?_) (fun g30 => ?_)
        · refine AS.pass rfl rfl rfl ?_
          refine AS.pass rfl rfl rfl ?_
          refine AS.pass rfl rfl rfl ?_
          refine AS.pass rfl rfl rfl ?_
          refine AS.pick rfl rfl rfl rfl rfl ?_
          refine AS.opsEnd ?_
          refine AS.condT rfl ?_
          refine AS.seq ?_
          refine AS.region rfl ?_
          refine AS.assign rfl rfl rfl rfl ?_
          refine AS.opsEnd ?_
          refine AS.retW Try.func64 rfl (.tmp rfl (.nil)) ?_
          refine RWk.drop [_] rfl ⟨?_, rfl⟩
          rw [objRight_alt]
          show AV.bool _ = AV.bool _
          (simp only [Bool.and_true, Bool.true_and, Bool.not_true, Bool.not_false, Bool.and_false, Bool.false_and, g16, g19, g25, g30]) <;> rfl
        · refine AS.fieldAddr rfl rfl rfl rfl TT4.fl38_5 ?_
          refine AS.load rfl rfl rfl rfl TT4.ty36 rfl rfl rfl ?_
          refine AS.len rfl rfl rfl rfl (by first | exact lenT_sl TT4.u36 | exact lenT_ms TT4.u36 | (rw [TT4.u36]; rfl)) rfl (lenMap _ _) ?_
          refine AS.bin rfl rfl rfl rfl rfl (BinR.gtr rfl) ?_
          refine AS.pick rfl rfl rfl rfl rfl ?_
          refine AS.opsEnd ?_
          refine AS.cond rfl (fun hc0 => ?_) (fun hc0 => ?_)
          · refine AS.seq ?_
            refine AS.region rfl ?_
            refine AS.assign rfl rfl rfl rfl ?_
            refine AS.opsEnd ?_
            refine AS.retW Try.func64 rfl (.tmp rfl (.nil)) ?_
            refine RWk.drop [_] rfl ⟨?_, rfl⟩
            rw [objRight_alt]
            show AV.bool _ = AV.bool _
            (simp only [Bool.and_true, Bool.true_and, Bool.not_true, Bool.not_false, Bool.and_false, Bool.false_and, g16, g19, g25, g30, hc0]) <;> rfl
          · refine AS.skip ?_
            refine AS.seq ?_
            refine AS.seq ?_
            refine AS.region rfl ?_
            refine AS.assign rfl rfl rfl rfl ?_
            refine AS.opsEnd ?_
            refine AS.block ?_
            refine AS.loopI (α := Nat) (fun i => i ≤ o.charge.length ∧ ∀ j, j < i → j < o.charge.length → resAt o.charge j = true) (fun i => o.charge.length - i) (fun i => [(5, .int .i64 i)]) [(1, _)] (fun i => _) 0 ⟨Nat.zero_le _, fun i h => by omega⟩ (.cons rfl (.cons rfl (.nil))) rfl (fun i hI l0_ih => ?_)
            refine AS.seq ?_
            refine AS.seq ?_
            refine AS.region rfl ?_
            refine AS.move rfl rfl rfl rfl ?_
            refine AS.fieldAddr rfl rfl rfl rfl TT4.fl38_5 ?_
            refine AS.load rfl rfl rfl rfl TT4.ty36 rfl rfl rfl ?_
            refine AS.len rfl rfl rfl rfl (by first | exact lenT_sl TT4.u36 | exact lenT_ms TT4.u36 | (rw [TT4.u36]; rfl)) rfl (lenMap _ _) ?_
            refine AS.bin rfl rfl rfl rfl rfl (BinR.lss rfl) ?_
            refine AS.opsEnd ?_
            refine AS.cond rfl (fun hc1 => ?_) (fun hc1 => ?_)
            · have hi : i < o.charge.length := by simp only [decide_eq_true_eq] at hc1; omega
              obtain ⟨r, hr⟩ := getAt hi
              obtain ⟨q, hq⟩ := getAt (l := o.charge) (i := i - 1) (by omega)
              refine AS.skip ?_
              refine AS.seq ?_
              refine AS.block ?_
              refine AS.seq ?_
              refine AS.region rfl ?_
              refine AS.fieldAddr rfl rfl rfl rfl TT4.fl38_5 ?_
              refine AS.load rfl rfl rfl rfl TT4.ty36 rfl rfl rfl ?_
              refine AS.move rfl rfl rfl rfl ?_
              refine AS.indexAddr rfl rfl rfl rfl rfl TT4.sl36 (Int.natCast_nonneg _) (map_get _ _ hr) rfl ?_
              refine AS.ifieldAddr rfl rfl rfl rfl TT4.fl116_0 ?_
              refine AS.iload rfl rfl rfl rfl TT4.ty9 rfl rfl rfl ?_
              refine AS.callP rfl rfl rfl rfl TT4.en86 (ref_right _ _) ?_
              refine AS.assign rfl rfl rfl rfl ?_
              refine AS.opsEnd ?_
              refine AS.seq ?_
              refine AS.seq ?_
              refine AS.region rfl ?_
              refine AS.move rfl rfl rfl rfl ?_
              refine AS.not rfl rfl rfl rfl rfl ?_
              refine AS.move rfl rfl rfl rfl ?_
              refine AS.splitT 52 rfl (fun g52 => ?_) (fun g52 => ?_)
              · rw [Bool.not_eq_true'] at g52
                refine AS.pass rfl rfl rfl ?_
                refine AS.pass rfl rfl rfl ?_
                refine AS.pass rfl rfl rfl ?_
                refine AS.pass rfl rfl rfl ?_
                refine AS.pass rfl rfl rfl ?_
                refine AS.pass rfl rfl rfl ?_
                refine AS.pass rfl rfl rfl ?_
                refine AS.pick rfl rfl rfl rfl rfl ?_
                refine AS.opsEnd ?_
                refine AS.condT rfl ?_
                refine AS.seq ?_
                refine AS.region rfl ?_
                refine AS.assign rfl rfl rfl rfl ?_
                refine AS.opsEnd ?_
                refine AS.retW Try.func64 rfl (.tmp rfl (.nil)) ?_
                have e3 : resAt o.charge i = false := by rw [resAt_eq hr hq]; (simp only [Bool.and_true, Bool.true_and, Bool.not_true, Bool.not_false, g16, g19, g25, g30, hc0, hc1, g52]) <;> rfl
                refine RWk.drop [_] rfl ⟨?_, rfl⟩
                rw [objRight_no (chargeOk_no hi e3)]; rfl
              · rw [Bool.not_eq_false'] at g52
                refine AS.fieldAddr rfl rfl rfl rfl TT4.fl38_5 ?_
                refine AS.load rfl rfl rfl rfl TT4.ty36 rfl rfl rfl ?_
                refine AS.move rfl rfl rfl rfl ?_
                refine AS.indexAddr rfl rfl rfl rfl rfl TT4.sl36 (Int.natCast_nonneg _) (map_get _ _ hr) rfl ?_
                refine AS.ifieldAddr rfl rfl rfl rfl TT4.fl116_1 ?_
                refine AS.iload rfl rfl rfl rfl TT4.ty2 rfl rfl rfl ?_
                refine AS.bin rfl rfl rfl rfl rfl (BinR.lss rfl) ?_
                refine AS.pick rfl rfl rfl rfl rfl ?_
                refine AS.opsEnd ?_
                refine AS.cond rfl (fun hc2 => ?_) (fun hc2 => ?_)
                · refine AS.seq ?_
                  refine AS.region rfl ?_
                  refine AS.assign rfl rfl rfl rfl ?_
                  refine AS.opsEnd ?_
                  refine AS.retW Try.func64 rfl (.tmp rfl (.nil)) ?_
                  have e3 : resAt o.charge i = false := by rw [resAt_eq hr hq]; (simp only [Bool.and_true, Bool.true_and, Bool.not_true, Bool.not_false, g16, g19, g25, g30, hc0, hc1, g52, hc2]) <;> rfl
                  refine RWk.drop [_] rfl ⟨?_, rfl⟩
                  rw [objRight_no (chargeOk_no hi e3)]; rfl
                · refine AS.skip ?_
                  refine AS.seq ?_
                  refine AS.region rfl ?_
                  refine AS.move rfl rfl rfl rfl ?_
                  refine AS.bin rfl rfl rfl rfl rfl (BinR.gtr rfl) ?_
                  refine AS.opsEnd ?_
                  refine AS.cond rfl (fun hc3 => ?_) (fun hc3 => ?_)
                  · have hi0 : 0 < i := by simp only [decide_eq_true_eq] at hc3; omega
                    have hm1 : IntKind.i64.wrap ((i : Int) - 1) = ((i - 1 : Nat) : Int) := by rw [w64 (by omega) (by omega)]; omega
                    refine AS.seq ?_
                    refine SA.start1 TT4.mixed rfl ?_
                    refine SA.rd 0 [1] rfl (fun env rest next => AS.fieldAddr rfl rfl rfl rfl TT4.fl38_5 next) ?_
                    refine SA.rd 1 [63] rfl (fun env rest next => AS.load rfl rfl rfl rfl TT4.ty36 rfl rfl rfl next) ?_
                    refine SA.rd 2 [5] rfl (fun env rest next => AS.move rfl rfl rfl rfl next) ?_
                    refine SA.rd 3 [65] rfl (fun env rest next => AS.bin rfl rfl rfl rfl rfl (BinR.sub (c := ((i - 1 : Nat) : Int)) hm1) next) ?_
                    refine SA.rd 4 [64, 66] rfl (fun env rest next => AS.indexAddr rfl rfl rfl rfl rfl TT4.sl36 (Int.natCast_nonneg _) (map_get _ _ hq) rfl next) ?_
                    refine SA.rd 5 [67] rfl (fun env rest next => AS.ifieldAddr rfl rfl rfl rfl TT4.fl116_0 next) ?_
                    refine SA.rd 6 [68] rfl (fun env rest next => AS.iload rfl rfl rfl rfl TT4.ty9 rfl rfl rfl next) ?_
                    refine SA.rd 7 [1] rfl (fun env rest next => AS.fieldAddr rfl rfl rfl rfl TT4.fl38_5 next) ?_
                    refine SA.rd 8 [70] rfl (fun env rest next => AS.load rfl rfl rfl rfl TT4.ty36 rfl rfl rfl next) ?_
                    refine SA.rd 9 [5] rfl (fun env rest next => AS.move rfl rfl rfl rfl next) ?_
                    refine SA.rd 10 [71, 72] rfl (fun env rest next => AS.indexAddr rfl rfl rfl rfl rfl TT4.sl36 (Int.natCast_nonneg _) (map_get _ _ hr) rfl next) ?_
                    refine SA.rd 11 [73] rfl (fun env rest next => AS.ifieldAddr rfl rfl rfl rfl TT4.fl116_0 next) ?_
                    refine SA.rd 12 [74] rfl (fun env rest next => AS.iload rfl rfl rfl rfl TT4.ty9 rfl rfl rfl next) ?_
                    refine SA.rd 13 [69, 75] rfl (fun env rest next => AS.callP rfl rfl rfl rfl TT4.en87 (before_spec _ _ _ (hl5 _ _ hq) (hl5 _ _ hr)) next) ?_
                    refine SA.rd 14 [76] rfl (fun env rest next => AS.assign rfl rfl rfl rfl next) ?_
                    refine SA.done rfl rfl rfl ?_
                    refine AS.seq ?_
                    refine AS.region rfl ?_
                    refine AS.move rfl rfl rfl rfl ?_
                    refine AS.not rfl rfl rfl rfl rfl ?_
                    refine AS.opsEnd ?_
                    refine AS.cond rfl (fun hc4 => ?_) (fun hc4 => ?_)
                    · rw [Bool.not_eq_true'] at hc4
                      refine AS.seq ?_
                      refine AS.region rfl ?_
                      refine AS.assign rfl rfl rfl rfl ?_
                      refine AS.opsEnd ?_
                      refine AS.retW Try.func64 rfl (.tmp rfl (.nil)) ?_
                      have e3 : resAt o.charge i = false := by rw [resAt_eq hr hq]; (simp only [Bool.and_true, Bool.true_and, Bool.not_true, Bool.not_false, g16, g19, g25, g30, hc0, hc1, g52, hc2, hc3, hc4]) <;> rfl
                      refine RWk.drop [_] rfl ⟨?_, rfl⟩
                      rw [objRight_no (chargeOk_no hi e3)]; rfl
                    · rw [Bool.not_eq_false'] at hc4
                      refine AS.skip ?_
                      refine AS.inBlock ?_
                      have e3 : resAt o.charge i = true := by rw [resAt_eq hr hq]; (simp only [Bool.and_true, Bool.true_and, Bool.not_true, Bool.not_false, g16, g19, g25, g30, hc0, hc1, g52, hc2, hc3, hc4]) <;> rfl
                      refine AS.region rfl ?_
                      refine AS.move rfl rfl rfl rfl ?_
                      refine AS.bin rfl rfl rfl rfl rfl (BinR.add (w64 (by omega) (by omega))) ?_
                      refine AS.assign rfl rfl rfl rfl ?_
                      refine AS.opsEnd ?_
                      exact AS.nextI (l0_ih (i + 1) ⟨hi, upToL hI.2 e3⟩ (by omega)) [] (.cons rfl (.cons rfl (.nil))) rfl
                  · refine AS.skip ?_
                    refine AS.inBlock ?_
                    have e3 : resAt o.charge i = true := by rw [resAt_eq hr hq]; (simp only [Bool.and_true, Bool.true_and, Bool.not_true, Bool.not_false, g16, g19, g25, g30, hc0, hc1, g52, hc2, hc3]) <;> rfl
                    refine AS.region rfl ?_
                    refine AS.move rfl rfl rfl rfl ?_
                    refine AS.bin rfl rfl rfl rfl rfl (BinR.add (w64 (by omega) (by omega))) ?_
                    refine AS.assign rfl rfl rfl rfl ?_
                    refine AS.opsEnd ?_
                    exact AS.nextI (l0_ih (i + 1) ⟨hi, upToL hI.2 e3⟩ (by omega)) [] (.cons rfl (.cons rfl (.nil))) rfl
            · have hall : chargeOk o.charge = true := allR_yes hI.2 (by simp only [decide_eq_false_iff_not] at hc1; omega)
              refine AS.exit rfl ?_
              refine AS.seq ?_
              refine AS.region rfl ?_
              refine AS.assign rfl rfl rfl rfl ?_
              refine AS.opsEnd ?_
              refine AS.retW Try.func64 rfl (.tmp rfl (.nil)) ?_
              refine RWk.drop [_] rfl ⟨?_, rfl⟩
              rw [objRight_alt]
              show AV.bool _ = AV.bool _
              (simp only [hall, Bool.and_true, Bool.true_and, Bool.not_true, Bool.not_false, Bool.and_false, Bool.false_and, g16, g19, g25, g30, hc0, hc1]) <;> rfl
    · rw [Bool.not_eq_false'] at g19
      refine AS.pass rfl rfl rfl ?_
      refine AS.pass rfl rfl rfl ?_
      refine AS.pass rfl rfl rfl ?_
      refine AS.pick rfl rfl rfl rfl rfl ?_
      refine AS.pick rfl rfl rfl rfl rfl ?_
      refine AS.move rfl rfl rfl rfl ?_
      refine AS.fieldAddr rfl rfl rfl rfl TT4.fl38_1 ?_
      refine AS.load rfl rfl rfl rfl TT4.ty2 rfl rfl rfl ?_
      refine AS.bin rfl rfl rfl rfl rfl (BinR.lss rfl) ?_
      refine AS.pick rfl rfl rfl rfl rfl ?_
      refine AS.move rfl rfl rfl rfl ?_
      refine AS.splitT 30 rfl (fun g30 => ?_) (fun g30 => ?_)
      · refine AS.pass rfl rfl rfl ?_
        refine AS.pass rfl rfl rfl ?_
        refine AS.pass rfl rfl rfl ?_
        refine AS.pass rfl rfl rfl ?_
        refine AS.pick rfl rfl rfl rfl rfl ?_
        refine AS.opsEnd ?_
        refine AS.condT rfl ?_
        refine AS.seq ?_
        refine AS.region rfl ?_
        refine AS.assign rfl rfl rfl rfl ?_
        refine AS.opsEnd ?_
        refine AS.retW Try.func64 rfl (.tmp rfl (.nil)) ?_
        refine RWk.drop [_] rfl ⟨?_, rfl⟩
        rw [objRight_alt]
        show AV.bool _ = AV.bool _
        (simp only [Bool.and_true, Bool.true_and, Bool.not_true, Bool.not_false, Bool.and_false, Bool.false_and, g16, g19, g30]) <;> rfl
      · refine AS.fieldAddr rfl rfl rfl rfl TT4.fl38_5 ?_
        refine AS.load rfl rfl rfl rfl TT4.ty36 rfl rfl rfl ?_
        refine AS.len rfl rfl rfl rfl (by first | exact lenT_sl TT4.u36 | exact lenT_ms TT4.u36 | (rw [TT4.u36]; rfl)) rfl (lenMap _ _) ?_
        refine AS.bin rfl rfl rfl rfl rfl (BinR.gtr rfl) ?_
        refine AS.pick rfl rfl rfl rfl rfl ?_
        refine AS.opsEnd ?_
        refine AS.cond rfl (fun hc0 => ?_) (fun hc0 => ?_)
        · refine AS.seq ?_
          refine AS.region rfl ?_
          refine AS.assign rfl rfl rfl rfl ?_
          refine AS.opsEnd ?_
          refine AS.retW Try.func64 rfl (.tmp rfl (.nil)) ?_
          refine RWk.drop [_] rfl ⟨?_, rfl⟩
          rw [objRight_alt]
          show AV.bool _ = AV.bool _
          (simp only [Bool.and_true, Bool.true_and, Bool.not_true, Bool.not_false, Bool.and_false, Bool.false_and, g16, g19, g30, hc0]) <;> rfl
        · refine AS.skip ?_
          refine AS.seq ?_
          refine AS.seq ?_
          refine AS.region rfl ?_
          refine AS.assign rfl rfl rfl rfl ?_
          refine AS.opsEnd ?_
          refine AS.block ?_
          refine AS.loopI (α := Nat) (fun i => i ≤ o.charge.length ∧ ∀ j, j < i → j < o.charge.length → resAt o.charge j = true) (fun i => o.charge.length - i) (fun i => [(5, .int .i64 i)]) [(1, _)] (fun i => _) 0 ⟨Nat.zero_le _, fun i h => by omega⟩ (.cons rfl (.cons rfl (.nil))) rfl (fun i hI l0_ih => ?_)
          refine AS.seq ?_
          refine AS.seq ?_
          refine AS.region rfl ?_
          refine AS.move rfl rfl rfl rfl ?_
          refine AS.fieldAddr rfl rfl rfl rfl TT4.fl38_5 ?_
          refine AS.load rfl rfl rfl rfl TT4.ty36 rfl rfl rfl ?_
          refine AS.len rfl rfl rfl rfl (by first | exact lenT_sl TT4.u36 | exact lenT_ms TT4.u36 | (rw [TT4.u36]; rfl)) rfl (lenMap _ _) ?_
          refine AS.bin rfl rfl rfl rfl rfl (BinR.lss rfl) ?_
          refine AS.opsEnd ?_
          refine AS.cond rfl (fun hc1 => ?_) (fun hc1 => ?_)
          · have hi : i < o.charge.length := by simp only [decide_eq_true_eq] at hc1; omega
            obtain ⟨r, hr⟩ := getAt hi
            obtain ⟨q, hq⟩ := getAt (l := o.charge) (i := i - 1) (by omega)
            refine AS.skip ?_
            refine AS.seq ?_
            refine AS.block ?_
            refine AS.seq ?_
            refine AS.region rfl ?_
            refine AS.fieldAddr rfl rfl rfl rfl TT4.fl38_5 ?_
            refine AS.load rfl rfl rfl rfl TT4.ty36 rfl rfl rfl ?_
            refine AS.move rfl rfl rfl rfl ?_
            refine AS.indexAddr rfl rfl rfl rfl rfl TT4.sl36 (Int.natCast_nonneg _) (map_get _ _ hr) rfl ?_
            refine AS.ifieldAddr rfl rfl rfl rfl TT4.fl116_0 ?_
            refine AS.iload rfl rfl rfl rfl TT4.ty9 rfl rfl rfl ?_
            refine AS.callP rfl rfl rfl rfl TT4.en86 (ref_right _ _) ?_
            refine AS.assign rfl rfl rfl rfl ?_
            refine AS.opsEnd ?_
            refine AS.seq ?_
            refine AS.seq ?_
            refine AS.region rfl ?_
            refine AS.move rfl rfl rfl rfl ?_
            refine AS.not rfl rfl rfl rfl rfl ?_
            refine AS.move rfl rfl rfl rfl ?_
            refine AS.splitT 52 rfl (fun g52 => ?_) (fun g52 => ?_)
            · rw [Bool.not_eq_true'] at g52
              refine AS.pass rfl rfl rfl ?_
              refine AS.pass rfl rfl rfl ?_
              refine AS.pass rfl rfl rfl ?_
              refine AS.pass rfl rfl rfl ?_
              refine AS.pass rfl rfl rfl ?_
              refine AS.pass rfl rfl rfl ?_
              refine AS.pass rfl rfl rfl ?_
              refine AS.pick rfl rfl rfl rfl rfl ?_
              refine AS.opsEnd ?_
              refine AS.condT rfl ?_
              refine AS.seq ?_
              refine AS.region rfl ?_
              refine AS.assign rfl rfl rfl rfl ?_
              refine AS.opsEnd ?_
              refine AS.retW Try.func64 rfl (.tmp rfl (.nil)) ?_
              have e3 : resAt o.charge i = false := by rw [resAt_eq hr hq]; (simp only [Bool.and_true, Bool.true_and, Bool.not_true, Bool.not_false, g16, g19, g30, hc0, hc1, g52]) <;> rfl
              refine RWk.drop [_] rfl ⟨?_, rfl⟩
              rw [objRight_no (chargeOk_no hi e3)]; rfl
            · rw [Bool.not_eq_false'] at g52
              refine AS.fieldAddr rfl rfl rfl rfl TT4.fl38_5 ?_
              refine AS.load rfl rfl rfl rfl TT4.ty36 rfl rfl rfl ?_
              refine AS.move rfl rfl rfl rfl ?_
              refine AS.indexAddr rfl rfl rfl rfl rfl TT4.sl36 (Int.natCast_nonneg _) (map_get _ _ hr) rfl ?_
              refine AS.ifieldAddr rfl rfl rfl rfl TT4.fl116_1 ?_
              refine AS.iload rfl rfl rfl rfl TT4.ty2 rfl rfl rfl ?_
              refine AS.bin rfl rfl rfl rfl rfl (BinR.lss rfl) ?_
              refine AS.pick rfl rfl rfl rfl rfl ?_
              refine AS.opsEnd ?_
              refine AS.cond rfl (fun hc2 => ?_) (fun hc2 => ?_)
              · refine AS.seq ?_
                refine AS.region rfl ?_
                refine AS.assign rfl rfl rfl rfl ?_
                refine AS.opsEnd ?_
                refine AS.retW Try.func64 rfl (.tmp rfl (.nil)) ?_
                have e3 : resAt o.charge i = false := by rw [resAt_eq hr hq]; (simp only [Bool.and_true, Bool.true_and, Bool.not_true, Bool.not_false, g16, g19, g30, hc0, hc1, g52, hc2]) <;> rfl
                refine RWk.drop [_] rfl ⟨?_, rfl⟩
                rw [objRight_no (chargeOk_no hi e3)]; rfl
              · refine AS.skip ?_
                refine AS.seq ?_
                refine AS.region rfl ?_
                refine AS.move rfl rfl rfl rfl ?_
                refine AS.bin rfl rfl rfl rfl rfl (BinR.gtr rfl) ?_
                refine AS.opsEnd ?_
                refine AS.cond rfl (fun hc3 => ?_) (fun hc3 => ?_)
                · have hi0 : 0 < i := by simp only [decide_eq_true_eq] at hc3; omega
                  have hm1 : IntKind.i64.wrap ((i : Int) - 1) = ((i - 1 : Nat) : Int) := by rw [w64 (by omega) (by omega)]; omega
                  refine AS.seq ?_
                  refine SA.start1 TT4.mixed rfl ?_
                  refine SA.rd 0 [1] rfl (fun env rest next => AS.fieldAddr rfl rfl rfl rfl TT4.fl38_5 next) ?_
                  refine SA.rd 1 [63] rfl (fun env rest next => AS.load rfl rfl rfl rfl TT4.ty36 rfl rfl rfl next) ?_
                  refine SA.rd 2 [5] rfl (fun env rest next => AS.move rfl rfl rfl rfl next) ?_
                  refine SA.rd 3 [65] rfl (fun env rest next => AS.bin rfl rfl rfl rfl rfl (BinR.sub (c := ((i - 1 : Nat) : Int)) hm1) next) ?_
                  refine SA.rd 4 [64, 66] rfl (fun env rest next => AS.indexAddr rfl rfl rfl rfl rfl TT4.sl36 (Int.natCast_nonneg _) (map_get _ _ hq) rfl next) ?_
                  refine SA.rd 5 [67] rfl (fun env rest next => AS.ifieldAddr rfl rfl rfl rfl TT4.fl116_0 next) ?_
                  refine SA.rd 6 [68] rfl (fun env rest next => AS.iload rfl rfl rfl rfl TT4.ty9 rfl rfl rfl next) ?_
                  refine SA.rd 7 [1] rfl (fun env rest next => AS.fieldAddr rfl rfl rfl rfl TT4.fl38_5 next) ?_
                  refine SA.rd 8 [70] rfl (fun env rest next => AS.load rfl rfl rfl rfl TT4.ty36 rfl rfl rfl next) ?_
                  refine SA.rd 9 [5] rfl (fun env rest next => AS.move rfl rfl rfl rfl next) ?_
                  refine SA.rd 10 [71, 72] rfl (fun env rest next => AS.indexAddr rfl rfl rfl rfl rfl TT4.sl36 (Int.natCast_nonneg _) (map_get _ _ hr) rfl next) ?_
                  refine SA.rd 11 [73] rfl (fun env rest next => AS.ifieldAddr rfl rfl rfl rfl TT4.fl116_0 next) ?_
                  refine SA.rd 12 [74] rfl (fun env rest next => AS.iload rfl rfl rfl rfl TT4.ty9 rfl rfl rfl next) ?_
                  refine SA.rd 13 [69, 75] rfl (fun env rest next => AS.callP rfl rfl rfl rfl TT4.en87 (before_spec _ _ _ (hl5 _ _ hq) (hl5 _ _ hr)) next) ?_
                  refine SA.rd 14 [76] rfl (fun env rest next => AS.assign rfl rfl rfl rfl next) ?_
                  refine SA.done rfl rfl rfl ?_
                  refine AS.seq ?_
                  refine AS.region rfl ?_
                  refine AS.move rfl rfl rfl rfl ?_
                  refine AS.not rfl rfl rfl rfl rfl ?_
                  refine AS.opsEnd ?_
                  refine AS.cond rfl (fun hc4 => ?_) (fun hc4 => ?_)
                  · rw [Bool.not_eq_true'] at hc4
                    refine AS.seq ?_
                    refine AS.region rfl ?_
                    refine AS.assign rfl rfl rfl rfl ?_
                    refine AS.opsEnd ?_
                    refine AS.retW Try.func64 rfl (.tmp rfl (.nil)) ?_
                    have e3 : resAt o.charge i = false := by rw [resAt_eq hr hq]; (simp only [Bool.and_true, Bool.true_and, Bool.not_true, Bool.not_false, g16, g19, g30, hc0, hc1, g52, hc2, hc3, hc4]) <;> rfl
                    refine RWk.drop [_] rfl ⟨?_, rfl⟩
                    rw [objRight_no (chargeOk_no hi e3)]; rfl
                  · rw [Bool.not_eq_false'] at hc4
                    refine AS.skip ?_
                    refine AS.inBlock ?_
                    have e3 : resAt o.charge i = true := by rw [resAt_eq hr hq]; (simp only [Bool.and_true, Bool.true_and, Bool.not_true, Bool.not_false, g16, g19, g30, hc0, hc1, g52, hc2, hc3, hc4]) <;> rfl
                    refine AS.region rfl ?_
                    refine AS.move rfl rfl rfl rfl ?_
                    refine AS.bin rfl rfl rfl rfl rfl (BinR.add (w64 (by omega) (by omega))) ?_
                    refine AS.assign rfl rfl rfl rfl ?_
                    refine AS.opsEnd ?_
                    exact AS.nextI (l0_ih (i + 1) ⟨hi, upToL hI.2 e3⟩ (by omega)) [] (.cons rfl (.cons rfl (.nil))) rfl
                · refine AS.skip ?_
                  refine AS.inBlock ?_
                  have e3 : resAt o.charge i = true := by rw [resAt_eq hr hq]; (simp only [Bool.and_true, Bool.true_and, Bool.not_true, Bool.not_false, g16, g19, g30, hc0, hc1, g52, hc2, hc3]) <;> rfl
                  refine AS.region rfl ?_
                  refine AS.move rfl rfl rfl rfl ?_
                  refine AS.bin rfl rfl rfl rfl rfl (BinR.add (w64 (by omega) (by omega))) ?_
                  refine AS.assign rfl rfl rfl rfl ?_
                  refine AS.opsEnd ?_
                  exact AS.nextI (l0_ih (i + 1) ⟨hi, upToL hI.2 e3⟩ (by omega)) [] (.cons rfl (.cons rfl (.nil))) rfl
          · have hall : chargeOk o.charge = true := allR_yes hI.2 (by simp only [decide_eq_false_iff_not] at hc1; omega)
            refine AS.exit rfl ?_
            refine AS.seq ?_
            refine AS.region rfl ?_
            refine AS.assign rfl rfl rfl rfl ?_
            refine AS.opsEnd ?_
            refine AS.retW Try.func64 rfl (.tmp rfl (.nil)) ?_
            refine RWk.drop [_] rfl ⟨?_, rfl⟩
            rw [objRight_alt]
            show AV.bool _ = AV.bool _
            (simp only [hall, Bool.and_true, Bool.true_and, Bool.not_true, Bool.not_false, Bool.and_false, Bool.false_and, g16, g19, g30, hc0, hc1]) <;> rfl
end Go.Proofs.Ytncecheccihjoaa
/- T5 -/
namespace Go.Proofs.Ytncecheccihjoaa.TT5
open Go Go.Proofs.Fw Go.Shelf
theorem en67 : Enters Go.Proofs.Try.prog 67 := enters_of Go.Proofs.Try.func67 (by kernel_rfl) rfl
theorem en77 : Enters Go.Proofs.Try.prog 77 := enters_of Go.Proofs.Try.func77 (by kernel_rfl) rfl
theorem fl38_0 : fldI Go.Proofs.Try.prog 38 0 = some 0 := by kernel_rfl
theorem fl38_1 : fldI Go.Proofs.Try.prog 38 1 = some 3 := by kernel_rfl
theorem fl38_2 : fldI Go.Proofs.Try.prog 38 2 = some 4 := by kernel_rfl
theorem fl38_3 : fldI Go.Proofs.Try.prog 38 3 = some 5 := by kernel_rfl
theorem fl38_4 : fldI Go.Proofs.Try.prog 38 4 = some 6 := by kernel_rfl
theorem fl38_5 : fldI Go.Proofs.Try.prog 38 5 = some 7 := by kernel_rfl
theorem mixed : Go.Proofs.Try.prog.follows .mixedOrders = true := by kernel_rfl
theorem ps116 : plainS Go.Proofs.Try.prog 116 = true := by kernel_rfl
theorem ps35 : plainS Go.Proofs.Try.prog 35 = true := by kernel_rfl
theorem sl36 : sliI Go.Proofs.Try.prog 36 = some (116, 2, 24) := by kernel_rfl
theorem ty116 : tyI Go.Proofs.Try.prog 116 = some (2, true) := by kernel_rfl
theorem ty2 : tyI Go.Proofs.Try.prog 2 = some (1, false) := by kernel_rfl
theorem ty35 : tyI Go.Proofs.Try.prog 35 = some (3, true) := by kernel_rfl
theorem ty36 : tyI Go.Proofs.Try.prog 36 = some (1, false) := by kernel_rfl
theorem ty38 : tyI Go.Proofs.Try.prog 38 = some (8, true) := by kernel_rfl
theorem ty4 : tyI Go.Proofs.Try.prog 4 = some (1, false) := by kernel_rfl
theorem ty9 : tyI Go.Proofs.Try.prog 9 = some (1, false) := by kernel_rfl
theorem u116 : Go.Proofs.Try.prog.underlying 116 = some (.struct #[⟨"Name", 9, 0, false, "", "", 0⟩, ⟨"N", 2, 1, false, "", "", 16⟩]) := by kernel_rfl
theorem u35 : Go.Proofs.Try.prog.underlying 35 = some (.struct #[⟨"Kind", 9, 0, false, "", "", 0⟩, ⟨"Space", 9, 1, false, "", "", 16⟩, ⟨"Name", 9, 2, false, "", "", 32⟩]) := by kernel_rfl
theorem u36 : Go.Proofs.Try.prog.underlying 36 = some (.slice 116) := by kernel_rfl
theorem u4 : Go.Proofs.Try.prog.underlying 4 = some (.bool) := by kernel_rfl
end Go.Proofs.Ytncecheccihjoaa.TT5
namespace Go.Proofs.Ytncecheccihjoaa
open Go Go.Proofs.Fw Go.Proofs
set_option linter.unusedVariables false
set_option linter.unusedSimpArgs false
set_option maxRecDepth 20000
set_option maxHeartbeats 4000000
theorem ref_resources (xs ys : List Res) (H : AH) (hl : xs.length ≤ 1000000) : ACalls Try.prog [] 77 [.slice (xs.map encRes) .any, .slice (ys.map encRes) .any] H (fun x H' => x = .bool (decide (xs = ys)) ∧ H' = H) := by
  refine ACalls.enter (n := 26) Try.func77 rfl rfl (Nat.le_of_ble_eq_true rfl) ?_
  refine AS.seq ?_
  refine AS.region rfl ?_
  refine AS.assign rfl rfl rfl rfl ?_
  refine AS.opsEnd ?_
  refine AS.seq ?_
  refine AS.seq ?_
  refine AS.region rfl ?_
  refine AS.move rfl rfl rfl rfl ?_
  refine AS.len rfl rfl rfl rfl (by first | exact lenT_sl TT5.u36 | exact lenT_ms TT5.u36 | (rw [TT5.u36]; rfl)) rfl (lenMap _ _) ?_
  refine AS.move rfl rfl rfl rfl ?_
  refine AS.len rfl rfl rfl rfl (by first | exact lenT_sl TT5.u36 | exact lenT_ms TT5.u36 | (rw [TT5.u36]; rfl)) rfl (lenMap _ _) ?_
  refine AS.bin rfl rfl rfl rfl rfl (BinR.neq rfl) ?_
  refine AS.opsEnd ?_
  refine AS.cond rfl (fun hc0 => ?_) (fun hc0 => ?_)
  · have hl0 : xs.length ≠ ys.length := fun e => by simp only [decide_eq_true_eq] at hc0; omega
    refine AS.seq ?_
    refine AS.region rfl ?_
    refine AS.assign rfl rfl rfl rfl ?_
    refine AS.opsEnd ?_
    refine AS.retW Try.func77 rfl (.tmp rfl (.nil)) ?_
    refine RWk.drop [] rfl ⟨?_, rfl⟩
    rw [decide_eq_false (fun e => hl0 (by rw [e]))]; rfl
  · have hl0 : xs.length = ys.length := by simp only [decide_eq_false_iff_not] at hc0; omega
    refine AS.skip ?_
    refine AS.seq ?_
    refine AS.seq ?_
    refine AS.region rfl ?_
    refine AS.assign rfl rfl rfl rfl ?_
    refine AS.opsEnd ?_
    refine AS.block ?_
    refine AS.loopI (α := Nat) (fun i => i ≤ xs.length ∧ ∀ j, j < i → xs[j]? = ys[j]?) (fun i => xs.length - i) (fun i => [(5, .int .i64 i)]) [(0, _), (1, _)] (fun i => _) 0 ⟨Nat.zero_le _, fun i h => by omega⟩ (.cons rfl (.cons rfl (.cons rfl (.nil)))) rfl (fun i hI l0_ih => ?_)
    refine AS.seq ?_
    refine AS.seq ?_
    refine AS.region rfl ?_
    refine AS.move rfl rfl rfl rfl ?_
    refine AS.move rfl rfl rfl rfl ?_
    refine AS.len rfl rfl rfl rfl (by first | exact lenT_sl TT5.u36 | exact lenT_ms TT5.u36 | (rw [TT5.u36]; rfl)) rfl (lenMap _ _) ?_
    refine AS.bin rfl rfl rfl rfl rfl (BinR.lss rfl) ?_
    refine AS.opsEnd ?_
    refine AS.cond rfl (fun hc1 => ?_) (fun hc1 => ?_)
    · have hi : i < xs.length := by simp only [decide_eq_true_eq] at hc1; omega
      obtain ⟨r, hr⟩ := getAt hi
      obtain ⟨q, hq⟩ := getAt (l := ys) (i := i) (by omega)
      refine AS.skip ?_
      refine AS.seq ?_
      refine AS.block ?_
      refine AS.seq ?_
      refine SA.start1 TT5.mixed rfl ?_
      refine SA.rd 0 [0] rfl (fun env rest next => AS.move rfl rfl rfl rfl next) ?_
      refine SA.rd 1 [5] rfl (fun env rest next => AS.move rfl rfl rfl rfl next) ?_
      refine SA.rd 2 [17, 18] rfl (fun env rest next => AS.indexAddr rfl rfl rfl rfl rfl TT5.sl36 (Int.natCast_nonneg _) (map_get _ _ hr) rfl next) ?_
      refine SA.rd 3 [19] rfl (fun env rest next => AS.iload (y := encRes r) rfl rfl rfl rfl TT5.ty116 rfl rfl rfl next) ?_
      refine SA.rd 4 [1] rfl (fun env rest next => AS.move rfl rfl rfl rfl next) ?_
      refine SA.rd 5 [5] rfl (fun env rest next => AS.move rfl rfl rfl rfl next) ?_
      refine SA.rd 6 [21, 22] rfl (fun env rest next => AS.indexAddr rfl rfl rfl rfl rfl TT5.sl36 (Int.natCast_nonneg _) (map_get _ _ hq) rfl next) ?_
      refine SA.rd 7 [23] rfl (fun env rest next => AS.iload (y := encRes q) rfl rfl rfl rfl TT5.ty116 rfl rfl rfl next) ?_
      refine SA.rd 8 [20, 24] rfl (fun env rest next => AS.bin rfl rfl rfl rfl rfl (BinR.stneq TT5.ps116 (by rw [TT5.u116]; rfl) (congrArg not (resEq _ _))) next) ?_
      refine SA.done rfl rfl rfl ?_
      refine AS.cond rfl (fun hc2 => ?_) (fun hc2 => ?_)
      · rw [Bool.not_eq_true'] at hc2
        have e3 : r ≠ q := of_decide_eq_false hc2
        refine AS.seq ?_
        refine AS.region rfl ?_
        refine AS.assign rfl rfl rfl rfl ?_
        refine AS.opsEnd ?_
        refine AS.retW Try.func77 rfl (.tmp rfl (.nil)) ?_
        refine RWk.drop [] rfl ⟨?_, rfl⟩
        rw [decide_eq_false (list_no hr hq e3)]; rfl
      · rw [Bool.not_eq_false'] at hc2
        have e3 : r = q := of_decide_eq_true hc2
        refine AS.skip ?_
        refine AS.inBlock ?_
        refine AS.region rfl ?_
        refine AS.move rfl rfl rfl rfl ?_
        refine AS.bin rfl rfl rfl rfl rfl (BinR.add (w64 (by omega) (by omega))) ?_
        refine AS.assign rfl rfl rfl rfl ?_
        refine AS.opsEnd ?_
        exact AS.nextI (l0_ih (i + 1) ⟨hi, upToE hI.2 (by rw [hr, hq, e3])⟩ (by omega)) [] (.cons rfl (.cons rfl (.cons rfl (.nil)))) rfl
    · have hall : xs = ys := list_done hl0 hI.2 (by simp only [decide_eq_false_iff_not] at hc1; omega)
      refine AS.exit rfl ?_
      refine AS.seq ?_
      refine AS.region rfl ?_
      refine AS.assign rfl rfl rfl rfl ?_
      refine AS.opsEnd ?_
      refine AS.retW Try.func77 rfl (.tmp rfl (.nil)) ?_
      refine RWk.drop [] rfl ⟨?_, rfl⟩
      rw [decide_eq_true hall]; rfl
theorem ref_alike (a b : Object) (H : AH) (hl : a.charge.length ≤ 1000000) : ACalls Try.prog [] 67 [encObj a, encObj b] H (fun x H' => x = .bool (alikeB a b) ∧ H' = H) := by
  refine ACalls.enter (n := 40) Try.func67 rfl rfl (Nat.le_of_ble_eq_true rfl) ?_
  refine AS.seq ?_
  refine AS.region rfl ?_
  refine AS.box rfl rfl rfl rfl rfl ?_
  intro b2
  refine AS.box rfl rfl rfl rfl rfl ?_
  intro b3
  refine AS.assign rfl rfl rfl rfl ?_
  refine AS.opsEnd ?_
  refine AS.seq ?_
  refine AS.region rfl ?_
  refine AS.fieldAddr rfl rfl rfl rfl TT5.fl38_5 ?_
  refine AS.load rfl rfl rfl rfl TT5.ty36 rfl rfl rfl ?_
  refine AS.fieldAddr rfl rfl rfl rfl TT5.fl38_5 ?_
  refine AS.load rfl rfl rfl rfl TT5.ty36 rfl rfl rfl ?_
  refine AS.callP rfl rfl rfl rfl TT5.en77 (ref_resources _ _ _ (by omega)) ?_
  refine AS.assign rfl rfl rfl rfl ?_
  refine AS.opsEnd ?_
  refine AS.seq ?_
  refine AS.region rfl ?_
  refine AS.move rfl rfl rfl rfl ?_
  refine AS.move rfl rfl rfl rfl ?_
  refine AS.splitT 12 rfl (fun g12 => ?_) (fun g12 => ?_)
  · refine AS.fieldAddr rfl rfl rfl rfl TT5.fl38_0 ?_
    refine AS.load rfl rfl rfl rfl TT5.ty35 rfl rfl rfl ?_
    refine AS.fieldAddr rfl rfl rfl rfl TT5.fl38_0 ?_
    refine AS.load rfl rfl rfl rfl TT5.ty35 rfl rfl rfl ?_
    refine AS.bin rfl rfl rfl rfl rfl (BinR.steql TT5.ps35 (by rw [TT5.u35]; rfl) (keyEq _ _)) ?_
    refine AS.pick rfl rfl rfl rfl rfl ?_
    refine AS.move rfl rfl rfl rfl ?_
    refine AS.splitT 19 rfl (fun g19 => ?_) (fun g19 => ?_)
    · refine AS.fieldAddr rfl rfl rfl rfl TT5.fl38_2 ?_
      refine AS.load rfl rfl rfl rfl TT5.ty9 rfl rfl rfl ?_
      refine AS.fieldAddr rfl rfl rfl rfl TT5.fl38_2 ?_
      refine AS.load rfl rfl rfl rfl TT5.ty9 rfl rfl rfl ?_
      refine AS.bin rfl rfl rfl rfl rfl (BinR.seql rfl) ?_
      refine AS.pick rfl rfl rfl rfl rfl ?_
      refine AS.move rfl rfl rfl rfl ?_
      refine AS.splitT 26 rfl (fun g26 => ?_) (fun g26 => ?_)
      · refine AS.fieldAddr rfl rfl rfl rfl TT5.fl38_3 ?_
        refine AS.load rfl rfl rfl rfl TT5.ty4 rfl rfl rfl ?_
        refine AS.fieldAddr rfl rfl rfl rfl TT5.fl38_3 ?_
        refine AS.load rfl rfl rfl rfl TT5.ty4 rfl rfl rfl ?_
        refine AS.bin rfl rfl rfl rfl rfl (BinR.beql TT5.u4 rfl) ?_
        refine AS.pick rfl rfl rfl rfl rfl ?_
        refine AS.move rfl rfl rfl rfl ?_
        refine AS.splitT 33 rfl (fun g33 => ?_) (fun g33 => ?_)
        · refine AS.fieldAddr rfl rfl rfl rfl TT5.fl38_4 ?_
          refine AS.load rfl rfl rfl rfl TT5.ty4 rfl rfl rfl ?_
          refine AS.fieldAddr rfl rfl rfl rfl TT5.fl38_4 ?_
          refine AS.load rfl rfl rfl rfl TT5.ty4 rfl rfl rfl ?_
          refine AS.bin rfl rfl rfl rfl rfl (BinR.beql TT5.u4 rfl) ?_
          refine AS.pick rfl rfl rfl rfl rfl ?_
          refine AS.assign rfl rfl rfl rfl ?_
          refine AS.opsEnd ?_
          refine AS.retW Try.func67 rfl (.tmp rfl (.nil)) ?_
          refine RWk.drop [_, _] rfl ⟨?_, rfl⟩
          show AV.bool _ = AV.bool _
          (simp only [alikeB, Bool.and_true, Bool.true_and, Bool.and_false, Bool.false_and, g12, g19, g26, g33]) <;> rfl
        · refine AS.pass rfl rfl rfl ?_
          refine AS.pass rfl rfl rfl ?_
          refine AS.pass rfl rfl rfl ?_
          refine AS.pass rfl rfl rfl ?_
          refine AS.pass rfl rfl rfl ?_
          refine AS.pick rfl rfl rfl rfl rfl ?_
          refine AS.assign rfl rfl rfl rfl ?_
          refine AS.opsEnd ?_
          refine AS.retW Try.func67 rfl (.tmp rfl (.nil)) ?_
          refine RWk.drop [_, _] rfl ⟨?_, rfl⟩
          show AV.bool _ = AV.bool _
          (simp only [alikeB, Bool.and_true, Bool.true_and, Bool.and_false, Bool.false_and, g12, g19, g26, g33]) <;> rfl
      · refine AS.pass rfl rfl rfl ?_
        refine AS.pass rfl rfl rfl ?_
        refine AS.pass rfl rfl rfl ?_
        refine AS.pass rfl rfl rfl ?_
        refine AS.pass rfl rfl rfl ?_
        refine AS.pick rfl rfl rfl rfl rfl ?_
        refine AS.move rfl rfl rfl rfl ?_
        refine AS.pass rfl rfl rfl ?_
        refine AS.pass rfl rfl rfl ?_
        refine AS.pass rfl rfl rfl ?_
        refine AS.pass rfl rfl rfl ?_
        refine AS.pass rfl rfl rfl ?_
        refine AS.pick rfl rfl rfl rfl rfl ?_
        refine AS.assign rfl rfl rfl rfl ?_
        refine AS.opsEnd ?_
        refine AS.retW Try.func67 rfl (.tmp rfl (.nil)) ?_
        refine RWk.drop [_, _] rfl ⟨?_, rfl⟩
        show AV.bool _ = AV.bool _
        (simp only [alikeB, Bool.and_true, Bool.true_and, Bool.and_false, Bool.false_and, g12, g19, g26]) <;> rfl
    · refine AS.pass rfl rfl rfl ?_
      refine AS.pass rfl rfl rfl ?_
      refine AS.pass rfl rfl rfl ?_
      refine AS.pass rfl rfl rfl ?_
      refine AS.pass rfl rfl rfl ?_
      refine AS.pick rfl rfl rfl rfl rfl ?_
      refine AS.move rfl rfl rfl rfl ?_
      refine AS.pass rfl rfl rfl ?_
      refine AS.pass rfl rfl rfl ?_
      refine AS.pass rfl rfl rfl ?_
      refine AS.pass rfl rfl rfl ?_
      refine AS.pass rfl rfl rfl ?_
      refine AS.pick rfl rfl rfl rfl rfl ?_
      refine AS.move rfl rfl rfl rfl ?_
      refine AS.pass rfl rfl rfl ?_
      refine AS.pass rfl rfl rfl ?_
      refine AS.pass rfl rfl rfl ?_
      refine AS.pass rfl rfl rfl ?_
      refine AS.pass rfl rfl rfl ?_
      refine AS.pick rfl rfl rfl rfl rfl ?_
      refine AS.assign rfl rfl rfl rfl ?_
      refine AS.opsEnd ?_
      refine AS.retW Try.func67 rfl (.tmp rfl (.nil)) ?_
      refine RWk.drop [_, _] rfl ⟨?_, rfl⟩
      show AV.bool _ = AV.bool _
      (simp only [alikeB, Bool.and_true, Bool.true_and, Bool.and_false, Bool.false_and, g12, g19]) <;> rfl
  · refine AS.pass rfl rfl rfl ?_
    refine AS.pass rfl rfl rfl ?_
    refine AS.pass rfl rfl rfl ?_
    refine AS.pass rfl rfl rfl ?_
    refine AS.pass rfl rfl rfl ?_
    refine AS.pick rfl rfl rfl rfl rfl ?_
    refine AS.move rfl rfl rfl rfl ?_
    refine AS.pass rfl rfl rfl ?_
    refine AS.pass rfl rfl rfl ?_
    refine AS.pass rfl rfl rfl ?_
    refine AS.pass rfl rfl rfl ?_
    refine AS.pass rfl rfl rfl ?_
    refine AS.pick rfl rfl rfl rfl rfl ?_
    refine AS.move rfl rfl rfl rfl ?_
    refine AS.pass rfl rfl rfl ?_
    refine AS.pass rfl rfl rfl ?_
    refine AS.pass rfl rfl rfl ?_
    refine AS.pass rfl rfl rfl ?_
    refine AS.pass rfl rfl rfl ?_
    refine AS.pick rfl rfl rfl rfl rfl ?_
    refine AS.move rfl rfl rfl rfl ?_
    refine AS.pass rfl rfl rfl ?_
    refine AS.pass rfl rfl rfl ?_
    refine AS.pass rfl rfl rfl ?_
    refine AS.pass rfl rfl rfl ?_
    refine AS.pass rfl rfl rfl ?_
    refine AS.pick rfl rfl rfl rfl rfl ?_
    refine AS.assign rfl rfl rfl rfl ?_
    refine AS.opsEnd ?_
    refine AS.retW Try.func67 rfl (.tmp rfl (.nil)) ?_
    refine RWk.drop [_, _] rfl ⟨?_, rfl⟩
    show AV.bool _ = AV.bool _
    (simp only [alikeB, Bool.and_true, Bool.true_and, Bool.and_false, Bool.false_and, g12]) <;> rfl
theorem ref_same (a b : Object) (H : AH) (hl : a.charge.length ≤ 1000000) : ACalls Try.prog [] 20 [encObj a, encObj b] H (fun x H' => x = .bool (decide (a = b)) ∧ H' = H) := by
  refine ACalls.enter (n := 15) Try.func20 rfl rfl (Nat.le_of_ble_eq_true rfl) ?_
  refine AS.seq ?_
  refine AS.region rfl ?_
  refine AS.box rfl rfl rfl rfl rfl ?_
  intro b2
  refine AS.box rfl rfl rfl rfl rfl ?_
  intro b3
  refine AS.assign rfl rfl rfl rfl ?_
  refine AS.opsEnd ?_
  refine AS.seq ?_
  refine AS.region rfl ?_
  refine AS.load rfl rfl rfl rfl TT5.ty38 rfl rfl rfl ?_
  refine AS.load rfl rfl rfl rfl TT5.ty38 rfl rfl rfl ?_
  refine AS.callP rfl rfl rfl rfl TT5.en67 (ref_alike _ _ _ (by omega)) ?_
  refine AS.move rfl rfl rfl rfl ?_
  refine AS.splitT 8 rfl (fun g8 => ?_) (fun g8 => ?_)
  · refine AS.fieldAddr rfl rfl rfl rfl TT5.fl38_1 ?_
    refine AS.load rfl rfl rfl rfl TT5.ty2 rfl rfl rfl ?_
    refine AS.fieldAddr rfl rfl rfl rfl TT5.fl38_1 ?_
    refine AS.load rfl rfl rfl rfl TT5.ty2 rfl rfl rfl ?_
    refine AS.bin rfl rfl rfl rfl rfl (BinR.eql rfl) ?_
    refine AS.pick rfl rfl rfl rfl rfl ?_
    refine AS.assign rfl rfl rfl rfl ?_
    refine AS.opsEnd ?_
    refine AS.retW Try.func20 rfl (.tmp rfl (.nil)) ?_
    refine RWk.drop [_, _] rfl ⟨?_, rfl⟩
    rw [← sameB_eq]
    show AV.bool _ = AV.bool _
    (simp only [Bool.and_true, Bool.true_and, Bool.and_false, Bool.false_and, g8]) <;> rfl
  · refine AS.pass rfl rfl rfl ?_
    refine AS.pass rfl rfl rfl ?_
    refine AS.pass rfl rfl rfl ?_
    refine AS.pass rfl rfl rfl ?_
    refine AS.pass rfl rfl rfl ?_
    refine AS.pick rfl rfl rfl rfl rfl ?_
    refine AS.assign rfl rfl rfl rfl ?_
    refine AS.opsEnd ?_
    refine AS.retW Try.func20 rfl (.tmp rfl (.nil)) ?_
    refine RWk.drop [_, _] rfl ⟨?_, rfl⟩
    rw [← sameB_eq]
    show AV.bool _ = AV.bool _
    (simp only [Bool.and_true, Bool.true_and, Bool.and_false, Bool.false_and, g8]) <;> rfl
end Go.Proofs.Ytncecheccihjoaa
/- T6 -/
namespace Go.Proofs.Ytncecheccihjoaa.TT6
open Go Go.Proofs.Fw Go.Shelf
theorem en126 : Enters Go.Proofs.Try.prog 126 := enters_of Go.Proofs.Try.func126 (by kernel_rfl) rfl
theorem en20 : Enters Go.Proofs.Try.prog 20 := enters_of Go.Proofs.Try.func20 (by kernel_rfl) rfl
theorem en21 : Enters Go.Proofs.Try.prog 21 := enters_of Go.Proofs.Try.func21 (by kernel_rfl) rfl
theorem en52 : Enters Go.Proofs.Try.prog 52 := enters_of Go.Proofs.Try.func52 (by kernel_rfl) rfl
theorem fl38_0 : fldI Go.Proofs.Try.prog 38 0 = some 0 := by kernel_rfl
theorem fl50_0 : fldI Go.Proofs.Try.prog 50 0 = some 0 := by kernel_rfl
theorem fl50_1 : fldI Go.Proofs.Try.prog 50 1 = some 1 := by kernel_rfl
theorem fl50_2 : fldI Go.Proofs.Try.prog 50 2 = some 9 := by kernel_rfl
theorem fl50_3 : fldI Go.Proofs.Try.prog 50 3 = some 10 := by kernel_rfl
theorem mixed : Go.Proofs.Try.prog.follows .mixedOrders = true := by kernel_rfl
theorem sl28 : sliI Go.Proofs.Try.prog 28 = some (50, 11, 144) := by kernel_rfl
theorem sl48 : sliI Go.Proofs.Try.prog 48 = some (38, 8, 104) := by kernel_rfl
theorem ty2 : tyI Go.Proofs.Try.prog 2 = some (1, false) := by kernel_rfl
theorem ty35 : tyI Go.Proofs.Try.prog 35 = some (3, true) := by kernel_rfl
theorem ty38 : tyI Go.Proofs.Try.prog 38 = some (8, true) := by kernel_rfl
theorem ty47 : tyI Go.Proofs.Try.prog 47 = some (1, false) := by kernel_rfl
theorem ty48 : tyI Go.Proofs.Try.prog 48 = some (1, false) := by kernel_rfl
theorem ty50 : tyI Go.Proofs.Try.prog 50 = some (11, true) := by kernel_rfl
theorem u28 : Go.Proofs.Try.prog.underlying 28 = some (.slice 50) := by kernel_rfl
theorem u48 : Go.Proofs.Try.prog.underlying 48 = some (.slice 38) := by kernel_rfl
end Go.Proofs.Ytncecheccihjoaa.TT6
namespace Go.Proofs.Ytncecheccihjoaa
open Go Go.Proofs.Fw Go.Proofs
set_option linter.unusedVariables false
set_option linter.unusedSimpArgs false
set_option maxRecDepth 20000
set_option maxHeartbeats 4000000
theorem ref_objects (xs ys : List Object) (H : AH) (hl : xs.length ≤ 1000000) (hch : ∀ o ∈ xs, o.charge.length ≤ 1000000) : ACalls Try.prog [] 52 [.slice (xs.map encObj) .any, .slice (ys.map encObj) .any] H (fun x H' => x = .bool (decide (xs = ys)) ∧ H' = H) := by
  refine ACalls.enter (n := 29) Try.func52 rfl rfl (Nat.le_of_ble_eq_true rfl) ?_
  refine AS.seq ?_
  refine AS.region rfl ?_
  refine AS.assign rfl rfl rfl rfl ?_
  refine AS.opsEnd ?_
  refine AS.seq ?_
  refine AS.seq ?_
  refine AS.region rfl ?_
  refine AS.move rfl rfl rfl rfl ?_
  refine AS.len rfl rfl rfl rfl (by first | exact lenT_sl TT6.u48 | exact lenT_ms TT6.u48 | (rw [TT6.u48]; rfl)) rfl (lenMap _ _) ?_
  refine AS.move rfl rfl rfl rfl ?_
  refine AS.len rfl rfl rfl rfl (by first | exact lenT_sl TT6.u48 | exact lenT_ms TT6.u48 | (rw [TT6.u48]; rfl)) rfl (lenMap _ _) ?_
  refine AS.bin rfl rfl rfl rfl rfl (BinR.neq rfl) ?_
  refine AS.opsEnd ?_
  refine AS.cond rfl (fun hc0 => ?_) (fun hc0 => ?_)
  · have hl0 : xs.length ≠ ys.length := fun e => by simp only [decide_eq_true_eq] at hc0; omega
    refine AS.seq ?_
    refine AS.region rfl ?_
    refine AS.assign rfl rfl rfl rfl ?_
    refine AS.opsEnd ?_
    refine AS.retW Try.func52 rfl (.tmp rfl (.nil)) ?_
    refine RWk.drop [] rfl ⟨?_, rfl⟩
    rw [decide_eq_false (fun e => hl0 (by rw [e]))]; rfl
  · have hl0 : xs.length = ys.length := by simp only [decide_eq_false_iff_not] at hc0; omega
    refine AS.skip ?_
    refine AS.seq ?_
    refine AS.seq ?_
    refine AS.region rfl ?_
    refine AS.assign rfl rfl rfl rfl ?_
    refine AS.opsEnd ?_
    refine AS.block ?_
    refine AS.loopI (α := Nat) (fun i => i ≤ xs.length ∧ ∀ j, j < i → xs[j]? = ys[j]?) (fun i => xs.length - i) (fun i => [(5, .int .i64 i)]) [(0, _), (1, _)] (fun i => _) 0 ⟨Nat.zero_le _, fun i h => by omega⟩ (.cons rfl (.cons rfl (.cons rfl (.nil)))) rfl (fun i hI l0_ih => ?_)
    refine AS.seq ?_
    refine AS.seq ?_
    refine AS.region rfl ?_
    refine AS.move rfl rfl rfl rfl ?_
    refine AS.move rfl rfl rfl rfl ?_
    refine AS.len rfl rfl rfl rfl (by first | exact lenT_sl TT6.u48 | exact lenT_ms TT6.u48 | (rw [TT6.u48]; rfl)) rfl (lenMap _ _) ?_
    refine AS.bin rfl rfl rfl rfl rfl (BinR.lss rfl) ?_
    refine AS.opsEnd ?_
    refine AS.cond rfl (fun hc1 => ?_) (fun hc1 => ?_)
    · have hi : i < xs.length := by simp only [decide_eq_true_eq] at hc1; omega
      obtain ⟨r, hr⟩ := getAt hi
      obtain ⟨q, hq⟩ := getAt (l := ys) (i := i) (by omega)
      refine AS.skip ?_
      refine AS.seq ?_
      refine AS.block ?_
      refine AS.seq ?_
      refine SA.start1 TT6.mixed rfl ?_
      refine SA.rd 0 [0] rfl (fun env rest next => AS.move rfl rfl rfl rfl next) ?_
      refine SA.rd 1 [5] rfl (fun env rest next => AS.move rfl rfl rfl rfl next) ?_
      refine SA.rd 2 [18, 19] rfl (fun env rest next => AS.indexAddr rfl rfl rfl rfl rfl TT6.sl48 (Int.natCast_nonneg _) (map_get _ _ hr) rfl next) ?_
      refine SA.rd 3 [20] rfl (fun env rest next => AS.iload (y := encObj r) rfl rfl rfl rfl TT6.ty38 rfl rfl rfl next) ?_
      refine SA.rd 4 [1] rfl (fun env rest next => AS.move rfl rfl rfl rfl next) ?_
      refine SA.rd 5 [5] rfl (fun env rest next => AS.move rfl rfl rfl rfl next) ?_
      refine SA.rd 6 [22, 23] rfl (fun env rest next => AS.indexAddr rfl rfl rfl rfl rfl TT6.sl48 (Int.natCast_nonneg _) (map_get _ _ hq) rfl next) ?_
      refine SA.rd 7 [24] rfl (fun env rest next => AS.iload (y := encObj q) rfl rfl rfl rfl TT6.ty38 rfl rfl rfl next) ?_
      refine SA.rd 8 [21, 25] rfl (fun env rest next => AS.callP rfl rfl rfl rfl TT6.en20 (ref_same r q _ (hch r (List.mem_of_getElem? hr))) next) ?_
      refine SA.rd 9 [26] rfl (fun env rest next => AS.assign rfl rfl rfl rfl next) ?_
      refine SA.done rfl rfl rfl ?_
      refine AS.seq ?_
      refine AS.region rfl ?_
      refine AS.move rfl rfl rfl rfl ?_
      refine AS.not rfl rfl rfl rfl rfl ?_
      refine AS.opsEnd ?_
      refine AS.cond rfl (fun hc2 => ?_) (fun hc2 => ?_)
      · rw [Bool.not_eq_true'] at hc2
        have e3 : r ≠ q := of_decide_eq_false hc2
        refine AS.seq ?_
        refine AS.region rfl ?_
        refine AS.assign rfl rfl rfl rfl ?_
        refine AS.opsEnd ?_
        refine AS.retW Try.func52 rfl (.tmp rfl (.nil)) ?_
        refine RWk.drop [] rfl ⟨?_, rfl⟩
        rw [decide_eq_false (list_no hr hq e3)]; rfl
      · rw [Bool.not_eq_false'] at hc2
        have e3 : r = q := of_decide_eq_true hc2
        refine AS.skip ?_
        refine AS.inBlock ?_
        refine AS.region rfl ?_
        refine AS.move rfl rfl rfl rfl ?_
        refine AS.bin rfl rfl rfl rfl rfl (BinR.add (w64 (by omega) (by omega))) ?_
        refine AS.assign rfl rfl rfl rfl ?_
        refine AS.opsEnd ?_
        exact AS.nextI (l0_ih (i + 1) ⟨hi, upToE hI.2 (by rw [hr, hq, e3])⟩ (by omega)) [] (.cons rfl (.cons rfl (.cons rfl (.nil)))) rfl
    · have hall : xs = ys := list_done hl0 hI.2 (by simp only [decide_eq_false_iff_not] at hc1; omega)
      refine AS.exit rfl ?_
      refine AS.seq ?_
      refine AS.region rfl ?_
      refine AS.assign rfl rfl rfl rfl ?_
      refine AS.opsEnd ?_
      refine AS.retW Try.func52 rfl (.tmp rfl (.nil)) ?_
      refine RWk.drop [] rfl ⟨?_, rfl⟩
      rw [decide_eq_true hall]; rfl
theorem ref_evsame (a b : Evt) (H : AH) (hl : a.objs.length ≤ 1000000) (hc : a.obj.charge.length ≤ 1000000) (hch : ∀ o ∈ a.objs, o.charge.length ≤ 1000000) : ACalls Try.prog [] 21 [encEv a, encEv b] H (fun x H' => x = .bool (decide (a = b)) ∧ H' = H) := by
  refine ACalls.enter (n := 35) Try.func21 rfl rfl (Nat.le_of_ble_eq_true rfl) ?_
  refine AS.seq ?_
  refine AS.region rfl ?_
  refine AS.box rfl rfl rfl rfl rfl ?_
  intro b2
  refine AS.box rfl rfl rfl rfl rfl ?_
  intro b3
  refine AS.assign rfl rfl rfl rfl ?_
  refine AS.opsEnd ?_
  refine AS.seq ?_
  refine AS.region rfl ?_
  refine AS.fieldAddr rfl rfl rfl rfl TT6.fl50_1 ?_
  refine AS.load rfl rfl rfl rfl TT6.ty38 rfl rfl rfl ?_
  refine AS.fieldAddr rfl rfl rfl rfl TT6.fl50_1 ?_
  refine AS.load rfl rfl rfl rfl TT6.ty38 rfl rfl rfl ?_
  refine AS.callP rfl rfl rfl rfl TT6.en20 (ref_same a.obj b.obj _ hc) ?_
  refine AS.assign rfl rfl rfl rfl ?_
  refine AS.opsEnd ?_
  refine AS.seq ?_
  refine AS.region rfl ?_
  refine AS.fieldAddr rfl rfl rfl rfl TT6.fl50_3 ?_
  refine AS.load rfl rfl rfl rfl TT6.ty48 rfl rfl rfl ?_
  refine AS.fieldAddr rfl rfl rfl rfl TT6.fl50_3 ?_
  refine AS.load rfl rfl rfl rfl TT6.ty48 rfl rfl rfl ?_
  refine AS.callP rfl rfl rfl rfl TT6.en52 (ref_objects a.objs b.objs _ hl hch) ?_
  refine AS.assign rfl rfl rfl rfl ?_
  refine AS.opsEnd ?_
  refine AS.seq ?_
  refine AS.region rfl ?_
  refine AS.move rfl rfl rfl rfl ?_
  refine AS.move rfl rfl rfl rfl ?_
  refine AS.splitT 18 rfl (fun g18 => ?_) (fun g18 => ?_)
  · refine AS.move rfl rfl rfl rfl ?_
    refine AS.pick rfl rfl rfl rfl rfl ?_
    refine AS.move rfl rfl rfl rfl ?_
    refine AS.splitT 21 rfl (fun g21 => ?_) (fun g21 => ?_)
    · refine AS.fieldAddr rfl rfl rfl rfl TT6.fl50_0 ?_
      refine AS.load rfl rfl rfl rfl TT6.ty47 rfl rfl rfl ?_
      refine AS.fieldAddr rfl rfl rfl rfl TT6.fl50_0 ?_
      refine AS.load rfl rfl rfl rfl TT6.ty47 rfl rfl rfl ?_
      refine AS.bin rfl rfl rfl rfl rfl (BinR.eql rfl) ?_
      refine AS.pick rfl rfl rfl rfl rfl ?_
      refine AS.move rfl rfl rfl rfl ?_
      refine AS.splitT 28 rfl (fun g28 => ?_) (fun g28 => ?_)
      · refine AS.fieldAddr rfl rfl rfl rfl TT6.fl50_2 ?_
        refine AS.load rfl rfl rfl rfl TT6.ty2 rfl rfl rfl ?_
        refine AS.fieldAddr rfl rfl rfl rfl TT6.fl50_2 ?_
        refine AS.load rfl rfl rfl rfl TT6.ty2 rfl rfl rfl ?_
        refine AS.bin rfl rfl rfl rfl rfl (BinR.eql rfl) ?_
        refine AS.pick rfl rfl rfl rfl rfl ?_
        refine AS.assign rfl rfl rfl rfl ?_
        refine AS.opsEnd ?_
        refine AS.retW Try.func21 rfl (.tmp rfl (.nil)) ?_
        refine RWk.drop [_, _] rfl ⟨?_, rfl⟩
        rw [← evEq]
        show AV.bool _ = AV.bool _
        (simp only [Bool.and_true, Bool.true_and, Bool.and_false, Bool.false_and, g18, g21, g28]) <;> rfl
      · refine AS.pass rfl rfl rfl ?_
        refine AS.pass rfl rfl rfl ?_
        refine AS.pass rfl rfl rfl ?_
        refine AS.pass rfl rfl rfl ?_
        refine AS.pass rfl rfl rfl ?_
        refine AS.pick rfl rfl rfl rfl rfl ?_
        refine AS.assign rfl rfl rfl rfl ?_
        refine AS.opsEnd ?_
        refine AS.retW Try.func21 rfl (.tmp rfl (.nil)) ?_
        refine RWk.drop [_, _] rfl ⟨?_, rfl⟩
        rw [← evEq]
        show AV.bool _ = AV.bool _
        (simp only [Bool.and_true, Bool.true_and, Bool.and_false, Bool.false_and, g18, g21, g28]) <;> rfl
    · refine AS.pass rfl rfl rfl ?_
      refine AS.pass rfl rfl rfl ?_
      refine AS.pass rfl rfl rfl ?_
      refine AS.pass rfl rfl rfl ?_
      refine AS.pass rfl rfl rfl ?_
      refine AS.pick rfl rfl rfl rfl rfl ?_
      refine AS.move rfl rfl rfl rfl ?_
      refine AS.pass rfl rfl rfl ?_
      refine AS.pass rfl rfl rfl ?_
      refine AS.pass rfl rfl rfl ?_
      refine AS.pass rfl rfl rfl ?_
      refine AS.pass rfl rfl rfl ?_
      refine AS.pick rfl rfl rfl rfl rfl ?_
      refine AS.assign rfl rfl rfl rfl ?_
      refine AS.opsEnd ?_
      refine AS.retW Try.func21 rfl (.tmp rfl (.nil)) ?_
      refine RWk.drop [_, _] rfl ⟨?_, rfl⟩
      rw [← evEq]
      show AV.bool _ = AV.bool _
      (simp only [Bool.and_true, Bool.true_and, Bool.and_false, Bool.false_and, g18, g21]) <;> rfl
  · refine AS.pass rfl rfl rfl ?_
    refine AS.pick rfl rfl rfl rfl rfl ?_
    refine AS.move rfl rfl rfl rfl ?_
    refine AS.pass rfl rfl rfl ?_
    refine AS.pass rfl rfl rfl ?_
    refine AS.pass rfl rfl rfl ?_
    refine AS.pass rfl rfl rfl ?_
    refine AS.pass rfl rfl rfl ?_
    refine AS.pick rfl rfl rfl rfl rfl ?_
    refine AS.move rfl rfl rfl rfl ?_
    refine AS.pass rfl rfl rfl ?_
    refine AS.pass rfl rfl rfl ?_
    refine AS.pass rfl rfl rfl ?_
    refine AS.pass rfl rfl rfl ?_
    refine AS.pass rfl rfl rfl ?_
    refine AS.pick rfl rfl rfl rfl rfl ?_
    refine AS.assign rfl rfl rfl rfl ?_
    refine AS.opsEnd ?_
    refine AS.retW Try.func21 rfl (.tmp rfl (.nil)) ?_
    refine RWk.drop [_, _] rfl ⟨?_, rfl⟩
    rw [← evEq]
    show AV.bool _ = AV.bool _
    (simp only [Bool.and_true, Bool.true_and, Bool.and_false, Bool.false_and, g18]) <;> rfl
theorem ref_events (xs ys : List Evt) (H : AH) (hl : xs.length ≤ 1000000) (hch : ∀ e ∈ xs, e.objs.length ≤ 1000000 ∧ e.obj.charge.length ≤ 1000000 ∧ ∀ o ∈ e.objs, o.charge.length ≤ 1000000) : ACalls Try.prog [] 25 [.slice (xs.map encEv) .any, .slice (ys.map encEv) .any] H (fun x H' => x = .bool (decide (xs = ys)) ∧ H' = H) := by
  refine ACalls.enter (n := 29) Try.func25 rfl rfl (Nat.le_of_ble_eq_true rfl) ?_
  refine AS.seq ?_
  refine AS.region rfl ?_
  refine AS.assign rfl rfl rfl rfl ?_
  refine AS.opsEnd ?_
  refine AS.seq ?_
  refine AS.seq ?_
  refine AS.region rfl ?_
  refine AS.move rfl rfl rfl rfl ?_
  refine AS.len rfl rfl rfl rfl (by first | exact lenT_sl TT6.u28 | exact lenT_ms TT6.u28 | (rw [TT6.u28]; rfl)) rfl (lenMap _ _) ?_
  refine AS.move rfl rfl rfl rfl ?_
  refine AS.len rfl rfl rfl rfl (by first | exact lenT_sl TT6.u28 | exact lenT_ms TT6.u28 | (rw [TT6.u28]; rfl)) rfl (lenMap _ _) ?_
  refine AS.bin rfl rfl rfl rfl rfl (BinR.neq rfl) ?_
  refine AS.opsEnd ?_
  refine AS.cond rfl (fun hc0 => ?_) (fun hc0 => ?_)
  · have hl0 : xs.length ≠ ys.length := fun e => by simp only [decide_eq_true_eq] at hc0; omega
    refine AS.seq ?_
    refine AS.region rfl ?_
    refine AS.assign rfl rfl rfl rfl ?_
    refine AS.opsEnd ?_
    refine AS.retW Try.func25 rfl (.tmp rfl (.nil)) ?_
    refine RWk.drop [] rfl ⟨?_, rfl⟩
    rw [decide_eq_false (fun e => hl0 (by rw [e]))]; rfl
  · have hl0 : xs.length = ys.length := by simp only [decide_eq_false_iff_not] at hc0; omega
    refine AS.skip ?_
    refine AS.seq ?_
    refine AS.seq ?_
    refine AS.region rfl ?_
    refine AS.assign rfl rfl rfl rfl ?_
    refine AS.opsEnd ?_
    refine AS.block ?_
    refine AS.loopI (α := Nat) (fun i => i ≤ xs.length ∧ ∀ j, j < i → xs[j]? = ys[j]?) (fun i => xs.length - i) (fun i => [(5, .int .i64 i)]) [(0, _), (1, _)] (fun i => _) 0 ⟨Nat.zero_le _, fun i h => by omega⟩ (.cons rfl (.cons rfl (.cons rfl (.nil)))) rfl (fun i hI l0_ih => ?_)
    refine AS.seq ?_
    refine AS.seq ?_
    refine AS.region rfl ?_
    refine AS.move rfl rfl rfl rfl ?_
    refine AS.move rfl rfl rfl rfl ?_
    refine AS.len rfl rfl rfl rfl (by first | exact lenT_sl TT6.u28 | exact lenT_ms TT6.u28 | (rw [TT6.u28]; rfl)) rfl (lenMap _ _) ?_
    refine AS.bin rfl rfl rfl rfl rfl (BinR.lss rfl) ?_
    refine AS.opsEnd ?_
    refine AS.cond rfl (fun hc1 => ?_) (fun hc1 => ?_)
    · have hi : i < xs.length := by simp only [decide_eq_true_eq] at hc1; omega
      obtain ⟨r, hr⟩ := getAt hi
      obtain ⟨q, hq⟩ := getAt (l := ys) (i := i) (by omega)
      refine AS.skip ?_
      refine AS.seq ?_
      refine AS.block ?_
      refine AS.seq ?_
      refine SA.start1 TT6.mixed rfl ?_
      refine SA.rd 0 [0] rfl (fun env rest next => AS.move rfl rfl rfl rfl next) ?_
      refine SA.rd 1 [5] rfl (fun env rest next => AS.move rfl rfl rfl rfl next) ?_
      refine SA.rd 2 [18, 19] rfl (fun env rest next => AS.indexAddr rfl rfl rfl rfl rfl TT6.sl28 (Int.natCast_nonneg _) (map_get _ _ hr) rfl next) ?_
      refine SA.rd 3 [20] rfl (fun env rest next => AS.iload (y := encEv r) rfl rfl rfl rfl TT6.ty50 rfl rfl rfl next) ?_
      refine SA.rd 4 [1] rfl (fun env rest next => AS.move rfl rfl rfl rfl next) ?_
      refine SA.rd 5 [5] rfl (fun env rest next => AS.move rfl rfl rfl rfl next) ?_
      refine SA.rd 6 [22, 23] rfl (fun env rest next => AS.indexAddr rfl rfl rfl rfl rfl TT6.sl28 (Int.natCast_nonneg _) (map_get _ _ hq) rfl next) ?_
      refine SA.rd 7 [24] rfl (fun env rest next => AS.iload (y := encEv q) rfl rfl rfl rfl TT6.ty50 rfl rfl rfl next) ?_
      refine SA.rd 8 [21, 25] rfl (fun env rest next => AS.callP rfl rfl rfl rfl TT6.en21 (ref_evsame r q _ (hch r (List.mem_of_getElem? hr)).1 (hch r (List.mem_of_getElem? hr)).2.1 (hch r (List.mem_of_getElem? hr)).2.2) next) ?_
      refine SA.rd 9 [26] rfl (fun env rest next => AS.assign rfl rfl rfl rfl next) ?_
      refine SA.done rfl rfl rfl ?_
      refine AS.seq ?_
      refine AS.region rfl ?_
      refine AS.move rfl rfl rfl rfl ?_
      refine AS.not rfl rfl rfl rfl rfl ?_
      refine AS.opsEnd ?_
      refine AS.cond rfl (fun hc2 => ?_) (fun hc2 => ?_)
      · rw [Bool.not_eq_true'] at hc2
        have e3 : r ≠ q := of_decide_eq_false hc2
        refine AS.seq ?_
        refine AS.region rfl ?_
        refine AS.assign rfl rfl rfl rfl ?_
        refine AS.opsEnd ?_
        refine AS.retW Try.func25 rfl (.tmp rfl (.nil)) ?_
        refine RWk.drop [] rfl ⟨?_, rfl⟩
        rw [decide_eq_false (list_no hr hq e3)]; rfl
      · rw [Bool.not_eq_false'] at hc2
        have e3 : r = q := of_decide_eq_true hc2
        refine AS.skip ?_
        refine AS.inBlock ?_
        refine AS.region rfl ?_
        refine AS.move rfl rfl rfl rfl ?_
        refine AS.bin rfl rfl rfl rfl rfl (BinR.add (w64 (by omega) (by omega))) ?_
        refine AS.assign rfl rfl rfl rfl ?_
        refine AS.opsEnd ?_
        exact AS.nextI (l0_ih (i + 1) ⟨hi, upToE hI.2 (by rw [hr, hq, e3])⟩ (by omega)) [] (.cons rfl (.cons rfl (.cons rfl (.nil)))) rfl
    · have hall : xs = ys := list_done hl0 hI.2 (by simp only [decide_eq_false_iff_not] at hc1; omega)
      refine AS.exit rfl ?_
      refine AS.seq ?_
      refine AS.region rfl ?_
      refine AS.assign rfl rfl rfl rfl ?_
      refine AS.opsEnd ?_
      refine AS.retW Try.func25 rfl (.tmp rfl (.nil)) ?_
      refine RWk.drop [] rfl ⟨?_, rfl⟩
      rw [decide_eq_true hall]; rfl
theorem ref_sorted (l : List Object) (H : AH) (hl : l.length ≤ 1000000) (hk : ∀ o ∈ l, keyFits o.key) : ACalls Try.prog [] 103 [.slice (l.map encObj) .any] H (fun x H' => x = .slice ((sortO l).map encObj) .any ∧ H' = H) := by
  refine ACalls.enter (n := 62) Try.func103 rfl rfl (Nat.le_of_ble_eq_true rfl) ?_
  refine AS.seq ?_
  refine AS.region rfl ?_
  refine AS.assign rfl rfl rfl rfl ?_
  refine AS.opsEnd ?_
  refine AS.seq ?_
  refine AS.region rfl ?_
  refine AS.assign rfl rfl rfl rfl ?_
  refine AS.opsEnd ?_
  refine AS.seq ?_
  refine AS.seq ?_
  refine AS.loose 3 rfl ?_
  refine AS.region rfl ?_
  refine AS.assign rfl rfl rfl rfl ?_
  refine AS.opsEnd ?_
  refine AS.block ?_
  refine AS.loopI (α := Nat × List Object) (fun s => s.1 ≤ l.length ∧ s.2 = sortO (l.take s.1)) (fun s => l.length - s.1) (fun s => [(3, .slice (s.2.map encObj) .any), (4, .int .i64 s.1)]) [(0, _)] (fun s => H) (0, []) ⟨Nat.zero_le _, by simp [sortO]⟩ (.cons rfl (.cons rfl (.cons rfl (.nil)))) rfl (fun s hI l0_ih => ?_)
  obtain ⟨i, out⟩ := s
  dsimp only at hI l0_ih ⊢
  refine AS.seq ?_
  refine AS.seq ?_
  refine AS.region rfl ?_
  refine AS.move rfl rfl rfl rfl ?_
  refine AS.move rfl rfl rfl rfl ?_
  refine AS.len rfl rfl rfl rfl (by first | exact lenT_sl TT6.u48 | exact lenT_ms TT6.u48 | (rw [TT6.u48]; rfl)) rfl (lenMap _ _) ?_
  refine AS.bin rfl rfl rfl rfl rfl (BinR.lss rfl) ?_
  refine AS.opsEnd ?_
  refine AS.cond rfl (fun hc0 => ?_) (fun hc0 => ?_)
  · have hi : i < l.length := by simp only [decide_eq_true_eq] at hc0; omega
    obtain ⟨o, ho⟩ := getAt hi
    have hout : out.length = i := by rw [hI.2, sortO_len, List.length_take]; omega
    have hmem : ∀ x ∈ out, x ∈ l := fun x hx => List.mem_of_mem_take (mem_sortO (hI.2 ▸ hx))
    refine AS.skip ?_
    refine AS.seq ?_
    refine AS.block ?_
    refine AS.seq ?_
    refine AS.region rfl ?_
    refine AS.assign rfl rfl rfl rfl ?_
    refine AS.opsEnd ?_
    refine AS.seq ?_
    refine AS.region rfl ?_
    refine AS.assign rfl rfl rfl rfl ?_
    refine AS.opsEnd ?_
    refine AS.seq ?_
    refine AS.seq ?_
    refine AS.region rfl ?_
    refine AS.assign rfl rfl rfl rfl ?_
    refine AS.opsEnd ?_
    refine AS.block ?_
    refine AS.loopI (α := Nat × List Object × Bool × Tok) (fun s => s.1 ≤ out.length ∧ inner o out s.1 s.2.1 s.2.2.1 ∧ s.2.2.2.grows = true) (fun s => out.length - s.1) (fun s => [(5, .slice (s.2.1.map encObj) s.2.2.2), (6, .bool s.2.2.1), (7, .int .i64 s.1)]) [(0, _), (3, _), (4, _)] (fun s => G s.2.2.2 (s.2.1.map encObj).length 8 38 ++ H) (0, [], false, .full) ⟨Nat.zero_le _, inner_start _ _, rfl⟩ (.cons rfl (.cons rfl (.cons rfl (.cons rfl (.cons rfl (.cons rfl (.nil))))))) rfl (fun s hJ l1_ih => ?_)
    obtain ⟨k, nx, dn, tk⟩ := s
    dsimp only at hJ l1_ih ⊢
    refine AS.seq ?_
    refine AS.seq ?_
    refine AS.region rfl ?_
    refine AS.move rfl rfl rfl rfl ?_
    refine AS.move rfl rfl rfl rfl ?_
    refine AS.len rfl rfl rfl rfl (by first | exact lenT_sl TT6.u48 | exact lenT_ms TT6.u48 | (rw [TT6.u48]; rfl)) rfl (lenMap _ _) ?_
    refine AS.bin rfl rfl rfl rfl rfl (BinR.lss rfl) ?_
    refine AS.opsEnd ?_
    refine AS.cond rfl (fun hc1 => ?_) (fun hc1 => ?_)
    · have hkl : k < out.length := by simp only [decide_eq_true_eq] at hc1; omega
      obtain ⟨x, hx⟩ := getAt hkl
      refine AS.skip ?_
      refine AS.seq ?_
      refine AS.block ?_
      refine AS.seq ?_
      refine SA.start1 TT6.mixed rfl ?_
      refine SA.rd 0 [0] rfl (fun env rest next => AS.move rfl rfl rfl rfl next) ?_
      refine SA.rd 1 [4] rfl (fun env rest next => AS.move rfl rfl rfl rfl next) ?_
      refine SA.rd 2 [21, 22] rfl (fun env rest next => AS.indexAddr rfl rfl rfl rfl rfl TT6.sl48 (Int.natCast_nonneg _) (map_get _ _ ho) rfl next) ?_
      refine SA.rd 3 [23] rfl (fun env rest next => AS.ifieldAddr rfl rfl rfl rfl TT6.fl38_0 next) ?_
      refine SA.rd 4 [24] rfl (fun env rest next => AS.iload (y := encKey o.key) rfl rfl rfl rfl TT6.ty35 rfl rfl rfl next) ?_
      refine SA.rd 5 [3] rfl (fun env rest next => AS.move rfl rfl rfl rfl next) ?_
      refine SA.rd 6 [7] rfl (fun env rest next => AS.move rfl rfl rfl rfl next) ?_
      refine SA.rd 7 [26, 27] rfl (fun env rest next => AS.indexAddr rfl rfl rfl rfl rfl TT6.sl48 (Int.natCast_nonneg _) (map_get _ _ hx) rfl next) ?_
      refine SA.rd 8 [28] rfl (fun env rest next => AS.ifieldAddr rfl rfl rfl rfl TT6.fl38_0 next) ?_
      refine SA.rd 9 [29] rfl (fun env rest next => AS.iload (y := encKey x.key) rfl rfl rfl rfl TT6.ty35 rfl rfl rfl next) ?_
      refine SA.rd 10 [25, 30] rfl (fun env rest next => AS.callP rfl rfl rfl rfl TT6.en126 (ref_less o.key x.key _ (hk _ (List.mem_of_getElem? ho)) (hk _ (hmem _ (List.mem_of_getElem? hx)))) next) ?_
      refine SA.rd 11 [31] rfl (fun env rest next => AS.assign rfl rfl rfl rfl next) ?_
      refine SA.done rfl rfl rfl ?_
      refine AS.seq ?_
      refine AS.seq ?_
      refine AS.region rfl ?_
      refine AS.move rfl rfl rfl rfl ?_
      refine AS.not rfl rfl rfl rfl rfl ?_
      refine AS.move rfl rfl rfl rfl ?_
      refine AS.splitT 34 rfl (fun g34 => ?_) (fun g34 => ?_)
      · rw [Bool.not_eq_true'] at g34
        subst g34
        refine AS.move rfl rfl rfl rfl ?_
        refine AS.pick rfl rfl rfl rfl rfl ?_
        refine AS.opsEnd ?_
        refine AS.cond rfl (fun hc2 => ?_) (fun hc2 => ?_)
        · refine AS.seq ?_
          refine AS.region rfl ?_
          refine AS.move rfl rfl rfl rfl ?_
          refine AS.move rfl rfl rfl rfl ?_
          refine AS.move rfl rfl rfl rfl ?_
          refine AS.indexAddr rfl rfl rfl rfl rfl TT6.sl48 (Int.natCast_nonneg _) (map_get _ _ ho) rfl ?_
          refine AS.iload (y := encObj o) rfl rfl rfl rfl TT6.ty38 rfl rfl rfl ?_
          refine AS.buildSlice1 rfl rfl rfl TT6.sl48 rfl rfl rfl ?_
          refine AS.append1 (a := o) rfl rfl rfl rfl rfl TT6.sl48 hJ.2.2 rfl encObj_sz encObj_flat (by have := inner_len2 hJ.2.1 hx; (try simp only [List.length_append, List.length_singleton]); omega) ?_
          intro tk1 h1
          refine AS.assign rfl rfl rfl rfl ?_
          refine AS.opsEnd ?_
          refine AS.region rfl ?_
          refine AS.assign rfl rfl rfl rfl ?_
          refine AS.opsEnd ?_
          refine AS.region rfl ?_
          refine AS.move rfl rfl rfl rfl ?_
          refine AS.move rfl rfl rfl rfl ?_
          refine AS.move rfl rfl rfl rfl ?_
          refine AS.indexAddr rfl rfl rfl rfl rfl TT6.sl48 (Int.natCast_nonneg _) (map_get _ _ hx) rfl ?_
          refine AS.iload (y := encObj x) rfl rfl rfl rfl TT6.ty38 rfl rfl rfl ?_
          refine AS.buildSlice1 rfl rfl rfl TT6.sl48 rfl rfl rfl ?_
          refine AS.append1 (a := x) rfl rfl rfl rfl rfl TT6.sl48 h1 rfl encObj_sz encObj_flat (by have := inner_len2 hJ.2.1 hx; (try simp only [List.length_append, List.length_singleton]); omega) ?_
          intro tk2 h2
          refine AS.assign rfl rfl rfl rfl ?_
          refine AS.opsEnd ?_
          refine AS.inBlock ?_
          refine AS.region rfl ?_
          refine AS.move rfl rfl rfl rfl ?_
          refine AS.bin rfl rfl rfl rfl rfl (BinR.add (w64 (by omega) (by omega))) ?_
          refine AS.assign rfl rfl rfl rfl ?_
          refine AS.opsEnd ?_
          exact AS.nextI (l1_ih (k + 1, nx ++ [o] ++ [x], true, tk2) ⟨hkl, inner_here hJ.2.1 hx hc2, h2⟩ (by dsimp only; omega)) [] (.cons rfl (.cons rfl (.cons rfl (.cons rfl (.cons rfl (.cons rfl (.nil))))))) rfl
        · refine AS.skip ?_
          refine AS.region rfl ?_
          refine AS.move rfl rfl rfl rfl ?_
          refine AS.move rfl rfl rfl rfl ?_
          refine AS.move rfl rfl rfl rfl ?_
          refine AS.indexAddr rfl rfl rfl rfl rfl TT6.sl48 (Int.natCast_nonneg _) (map_get _ _ hx) rfl ?_
          refine AS.iload (y := encObj x) rfl rfl rfl rfl TT6.ty38 rfl rfl rfl ?_
          refine AS.buildSlice1 rfl rfl rfl TT6.sl48 rfl rfl rfl ?_
          refine AS.append1 (a := x) rfl rfl rfl rfl rfl TT6.sl48 hJ.2.2 rfl encObj_sz encObj_flat (by have := inner_len2 hJ.2.1 hx; (try simp only [List.length_append, List.length_singleton]); omega) ?_
          intro tk2 h2
          refine AS.assign rfl rfl rfl rfl ?_
          refine AS.opsEnd ?_
          refine AS.inBlock ?_
          refine AS.region rfl ?_
          refine AS.move rfl rfl rfl rfl ?_
          refine AS.bin rfl rfl rfl rfl rfl (BinR.add (w64 (by omega) (by omega))) ?_
          refine AS.assign rfl rfl rfl rfl ?_
          refine AS.opsEnd ?_
          exact AS.nextI (l1_ih (k + 1, nx ++ [x], false, tk2) ⟨hkl, inner_on hJ.2.1 hx hc2, h2⟩ (by dsimp only; omega)) [] (.cons rfl (.cons rfl (.cons rfl (.cons rfl (.cons rfl (.cons rfl (.nil))))))) rfl
      · rw [Bool.not_eq_false'] at g34
        subst g34
        refine AS.pass rfl rfl rfl ?_
        refine AS.pick rfl rfl rfl rfl rfl ?_
        refine AS.opsEnd ?_
        refine AS.condF rfl ?_
        refine AS.skip ?_
        refine AS.region rfl ?_
        refine AS.move rfl rfl rfl rfl ?_
        refine AS.move rfl rfl rfl rfl ?_
        refine AS.move rfl rfl rfl rfl ?_
        refine AS.indexAddr rfl rfl rfl rfl rfl TT6.sl48 (Int.natCast_nonneg _) (map_get _ _ hx) rfl ?_
        refine AS.iload (y := encObj x) rfl rfl rfl rfl TT6.ty38 rfl rfl rfl ?_
        refine AS.buildSlice1 rfl rfl rfl TT6.sl48 rfl rfl rfl ?_
        refine AS.append1 (a := x) rfl rfl rfl rfl rfl TT6.sl48 hJ.2.2 rfl encObj_sz encObj_flat (by have := inner_len2 hJ.2.1 hx; (try simp only [List.length_append, List.length_singleton]); omega) ?_
        intro tk2 h2
        refine AS.assign rfl rfl rfl rfl ?_
        refine AS.opsEnd ?_
        refine AS.inBlock ?_
        refine AS.region rfl ?_
        refine AS.move rfl rfl rfl rfl ?_
        refine AS.bin rfl rfl rfl rfl rfl (BinR.add (w64 (by omega) (by omega))) ?_
        refine AS.assign rfl rfl rfl rfl ?_
        refine AS.opsEnd ?_
        exact AS.nextI (l1_ih (k + 1, nx ++ [x], true, tk2) ⟨hkl, inner_done hJ.2.1 hx, h2⟩ (by dsimp only; omega)) [] (.cons rfl (.cons rfl (.cons rfl (.cons rfl (.cons rfl (.cons rfl (.nil))))))) rfl
    · have hkl : out.length ≤ k := by simp only [decide_eq_false_iff_not] at hc1; omega
      refine AS.exit rfl ?_
      refine AS.seq ?_
      refine AS.seq ?_
      refine AS.region rfl ?_
      refine AS.move rfl rfl rfl rfl ?_
      refine AS.not rfl rfl rfl rfl rfl ?_
      refine AS.opsEnd ?_
      refine AS.cond rfl (fun hc3 => ?_) (fun hc3 => ?_)
      · rw [Bool.not_eq_true'] at hc3
        subst hc3
        refine AS.region rfl ?_
        refine AS.move rfl rfl rfl rfl ?_
        refine AS.move rfl rfl rfl rfl ?_
        refine AS.move rfl rfl rfl rfl ?_
        refine AS.indexAddr rfl rfl rfl rfl rfl TT6.sl48 (Int.natCast_nonneg _) (map_get _ _ ho) rfl ?_
        refine AS.iload (y := encObj o) rfl rfl rfl rfl TT6.ty38 rfl rfl rfl ?_
        refine AS.buildSlice1 rfl rfl rfl TT6.sl48 rfl rfl rfl ?_
        refine AS.append1 (a := o) rfl rfl rfl rfl rfl TT6.sl48 hJ.2.2 rfl encObj_sz encObj_flat (by have := inner_len hJ.2.1; (try simp only [List.length_append, List.length_singleton]); omega) ?_
        intro tk1 h1
        refine AS.assign rfl rfl rfl rfl ?_
        refine AS.opsEnd ?_
        refine AS.region rfl ?_
        refine AS.move rfl rfl rfl rfl ?_
        refine AS.assign rfl rfl rfl rfl ?_
        refine AS.opsEnd ?_
        refine AS.loose 3 rfl ?_
        refine AS.dropH [] (G _ _ _ _) rfl ?_
        refine AS.inBlock ?_
        refine AS.region rfl ?_
        refine AS.move rfl rfl rfl rfl ?_
        refine AS.bin rfl rfl rfl rfl rfl (BinR.add (w64 (by omega) (by omega))) ?_
        refine AS.assign rfl rfl rfl rfl ?_
        refine AS.opsEnd ?_
        exact AS.nextI (l0_ih (i + 1, nx ++ [o]) ⟨hi, by dsimp only; rw [sortO_succ ho, ← hI.2, inner_end' hJ.2.1 hkl]⟩ (by dsimp only; omega)) [] (.cons rfl (.cons rfl (.cons rfl (.nil)))) rfl
      · rw [Bool.not_eq_false'] at hc3
        subst hc3
        refine AS.skip ?_
        refine AS.region rfl ?_
        refine AS.move rfl rfl rfl rfl ?_
        refine AS.assign rfl rfl rfl rfl ?_
        refine AS.opsEnd ?_
        refine AS.loose 3 rfl ?_
        refine AS.dropH [] (G _ _ _ _) rfl ?_
        refine AS.inBlock ?_
        refine AS.region rfl ?_
        refine AS.move rfl rfl rfl rfl ?_
        refine AS.bin rfl rfl rfl rfl rfl (BinR.add (w64 (by omega) (by omega))) ?_
        refine AS.assign rfl rfl rfl rfl ?_
        refine AS.opsEnd ?_
        exact AS.nextI (l0_ih (i + 1, nx) ⟨hi, by dsimp only; rw [sortO_succ ho, ← hI.2, inner_end hJ.2.1 hkl]⟩ (by dsimp only; omega)) [] (.cons rfl (.cons rfl (.cons rfl (.nil)))) rfl
  · have hfin : out = sortO l := by rw [hI.2, List.take_of_length_le (by simp only [decide_eq_false_iff_not] at hc0; omega)]
    refine AS.exit rfl ?_
    refine AS.seq ?_
    refine AS.region rfl ?_
    refine AS.move rfl rfl rfl rfl ?_
    refine AS.assign rfl rfl rfl rfl ?_
    refine AS.opsEnd ?_
    refine AS.retW Try.func103 rfl (.tmp rfl (.nil)) ?_
    refine RWk.drop [] rfl ⟨?_, rfl⟩
    rw [← hfin]; rfl
end Go.Proofs.Ytncecheccihjoaa
/- T7 -/
namespace Go.Proofs.Ytncecheccihjoaa.TT7
open Go Go.Proofs.Fw Go.Shelf
theorem en126 : Enters Go.Proofs.Try.prog 126 := enters_of Go.Proofs.Try.func126 (by kernel_rfl) rfl
theorem en20 : Enters Go.Proofs.Try.prog 20 := enters_of Go.Proofs.Try.func20 (by kernel_rfl) rfl
theorem en21 : Enters Go.Proofs.Try.prog 21 := enters_of Go.Proofs.Try.func21 (by kernel_rfl) rfl
theorem en52 : Enters Go.Proofs.Try.prog 52 := enters_of Go.Proofs.Try.func52 (by kernel_rfl) rfl
theorem en66 : Enters Go.Proofs.Try.prog 66 := enters_of Go.Proofs.Try.func66 (by kernel_rfl) rfl
theorem fl38_0 : fldI Go.Proofs.Try.prog 38 0 = some 0 := by kernel_rfl
theorem fl38_5 : fldI Go.Proofs.Try.prog 38 5 = some 7 := by kernel_rfl
theorem fl50_0 : fldI Go.Proofs.Try.prog 50 0 = some 0 := by kernel_rfl
theorem fl50_1 : fldI Go.Proofs.Try.prog 50 1 = some 1 := by kernel_rfl
theorem fl50_2 : fldI Go.Proofs.Try.prog 50 2 = some 9 := by kernel_rfl
theorem fl50_3 : fldI Go.Proofs.Try.prog 50 3 = some 10 := by kernel_rfl
theorem mixed : Go.Proofs.Try.prog.follows .mixedOrders = true := by kernel_rfl
theorem sl28 : sliI Go.Proofs.Try.prog 28 = some (50, 11, 144) := by kernel_rfl
theorem sl36 : sliI Go.Proofs.Try.prog 36 = some (116, 2, 24) := by kernel_rfl
theorem sl48 : sliI Go.Proofs.Try.prog 48 = some (38, 8, 104) := by kernel_rfl
theorem ty2 : tyI Go.Proofs.Try.prog 2 = some (1, false) := by kernel_rfl
theorem ty35 : tyI Go.Proofs.Try.prog 35 = some (3, true) := by kernel_rfl
theorem ty36 : tyI Go.Proofs.Try.prog 36 = some (1, false) := by kernel_rfl
theorem ty38 : tyI Go.Proofs.Try.prog 38 = some (8, true) := by kernel_rfl
theorem ty47 : tyI Go.Proofs.Try.prog 47 = some (1, false) := by kernel_rfl
theorem ty48 : tyI Go.Proofs.Try.prog 48 = some (1, false) := by kernel_rfl
theorem ty50 : tyI Go.Proofs.Try.prog 50 = some (11, true) := by kernel_rfl
theorem u28 : Go.Proofs.Try.prog.underlying 28 = some (.slice 50) := by kernel_rfl
theorem u36 : Go.Proofs.Try.prog.underlying 36 = some (.slice 116) := by kernel_rfl
theorem u48 : Go.Proofs.Try.prog.underlying 48 = some (.slice 38) := by kernel_rfl
theorem z116 : zI Go.Proofs.Try.prog 116 = some (.agg #[(.string ⟨#[]⟩), (.int .i64 0)]) := by kernel_rfl
theorem z38 : zI Go.Proofs.Try.prog 38 = some (.agg #[(.string ⟨#[]⟩), (.string ⟨#[]⟩), (.string ⟨#[]⟩), (.int .i64 0), (.string ⟨#[]⟩), (.bool false), (.bool false), (.slice none 0 0)]) := by kernel_rfl
theorem z50 : zI Go.Proofs.Try.prog 50 = some (.agg #[(.int .i64 0), (.string ⟨#[]⟩), (.string ⟨#[]⟩), (.string ⟨#[]⟩), (.int .i64 0), (.string ⟨#[]⟩), (.bool false), (.bool false), (.slice none 0 0), (.int .i64 0), (.slice none 0 0)]) := by kernel_rfl
end Go.Proofs.Ytncecheccihjoaa.TT7
namespace Go.Proofs.Ytncecheccihjoaa
open Go Go.Proofs.Fw Go.Proofs
set_option linter.unusedVariables false
set_option linter.unusedSimpArgs false
set_option maxRecDepth 20000
set_option maxHeartbeats 4000000
theorem own_spec (o : Object) (H : AH) (hl : o.charge.length ≤ 1000000) : ACalls Try.prog [] 66 [encObj o] H (fun x H' => x = encObj o ∧ H' = H) := by
  refine ACalls.enter (n := 15) Try.func66 rfl rfl (Nat.le_of_ble_eq_true rfl) ?_
  refine AS.seq ?_
  refine AS.region rfl ?_
  refine AS.box rfl rfl rfl rfl rfl ?_
  intro b1
  refine AS.allocZ rfl rfl rfl TT7.z38 rfl ?_
  intro b2
  refine AS.opsEnd ?_
  refine AS.seq ?_
  refine AS.region rfl ?_
  refine AS.fieldAddr rfl rfl rfl rfl TT7.fl38_5 ?_
  refine AS.load rfl rfl rfl rfl TT7.ty36 rfl rfl rfl ?_
  refine AS.len rfl rfl rfl rfl (by first | exact lenT_sl TT7.u36 | exact lenT_ms TT7.u36 | (rw [TT7.u36]; rfl)) rfl rfl ?_
  refine AS.makeSliceZ (m := (o.charge.map encRes).length) rfl rfl rfl rfl rfl rfl rfl TT7.sl36 TT7.z116 rfl (by rw [List.length_map]; omega) ?_
  intro b7
  refine AS.assign rfl rfl rfl rfl ?_
  refine AS.opsEnd ?_
  refine AS.seq ?_
  refine AS.region rfl ?_
  refine AS.move rfl rfl rfl rfl ?_
  refine AS.fieldAddr rfl rfl rfl rfl TT7.fl38_5 ?_
  refine AS.load rfl rfl rfl rfl TT7.ty36 rfl rfl rfl ?_
  refine AS.copy rfl rfl rfl rfl rfl TT7.sl36 (map_sz encRes_sz _) (map_one encRes_flat _) (by rw [zrow_length, Nat.zero_add]; exact Nat.le_refl _) (Nat.min_self _).symm ?_
  refine AS.opsEnd ?_
  refine AS.seq ?_
  refine AS.region rfl ?_
  refine AS.move rfl rfl rfl rfl ?_
  refine AS.fieldAddr rfl rfl rfl rfl TT7.fl38_5 ?_
  refine AS.store rfl rfl rfl rfl rfl rfl TT7.ty36 rfl rfl ?_
  refine AS.opsEnd ?_
  refine AS.seq ?_
  refine AS.region rfl ?_
  refine AS.load rfl rfl rfl rfl TT7.ty38 rfl rfl rfl ?_
  refine AS.store rfl rfl rfl rfl rfl rfl TT7.ty38 rfl rfl ?_
  refine AS.opsEnd ?_
  refine AS.retW Try.func66 rfl (.cell rfl TT7.ty38 rfl rfl rfl (.nil)) ?_
  refine ⟨encObj o, H, ?_, rfl, rfl⟩
  refine Wk.trans (Wk.freeze (b := b7) (Froze.aggL (ys := [.str o.key.kind, .str o.key.space, .str o.key.name, .int .i64 o.ver, .str o.cls, .bool o.term, .bool o.best, .slice (o.charge.map encRes) .any]) (.cons (.refl _) (.cons (.refl _) (.cons (.refl _) (.cons (.refl _) (.cons (.refl _) (.cons (.refl _) (.cons (.refl _) (.cons (.slice 0 _ _ 2 _ _ rfl (Nat.le_refl _) (map_allSz encRes_sz (fun _ => rfl) _) (copied (map_sz encRes_sz _) rfl rfl) (.inl rfl)) .nil)))))))))) (Wk.trans (Wk.drop _) (Wk.drop _))
theorem evown_spec (e : Evt) (H : AH) (hl : e.objs.length ≤ 1000000) (hc : e.obj.charge.length ≤ 1000000) (hch : ∀ o ∈ e.objs, o.charge.length ≤ 1000000) : ACalls Try.prog [] 68 [encEv e] H (fun x H' => x = encEv e ∧ H' = H) := by
  refine ACalls.enter (n := 26) Try.func68 rfl rfl (Nat.le_of_ble_eq_true rfl) ?_
  refine AS.seq ?_
  refine AS.region rfl ?_
  refine AS.box rfl rfl rfl rfl rfl ?_
  intro b1
  refine AS.allocZ rfl rfl rfl TT7.z50 rfl ?_
  intro b2
  refine AS.opsEnd ?_
  refine AS.seq ?_
  refine AS.region rfl ?_
  refine AS.fieldAddr rfl rfl rfl rfl TT7.fl50_1 ?_
  refine AS.load (y := encObj e.obj) rfl rfl rfl rfl TT7.ty38 rfl rfl rfl ?_
  refine AS.callP rfl rfl rfl rfl TT7.en66 (own_spec e.obj _ hc) ?_
  refine AS.fieldAddr rfl rfl rfl rfl TT7.fl50_1 ?_
  refine AS.store rfl rfl rfl rfl rfl rfl TT7.ty38 rfl rfl ?_
  refine AS.opsEnd ?_
  refine AS.seq ?_
  refine AS.region rfl ?_
  refine AS.assign rfl rfl rfl rfl ?_
  refine AS.opsEnd ?_
  refine AS.seq ?_
  refine AS.seq ?_
  refine AS.region rfl ?_
  refine AS.fieldAddr rfl rfl rfl rfl TT7.fl50_3 ?_
  refine AS.load rfl rfl rfl rfl TT7.ty48 rfl rfl rfl ?_
  refine AS.len rfl rfl rfl rfl (by first | exact lenT_sl TT7.u48 | exact lenT_ms TT7.u48 | (rw [TT7.u48]; rfl)) rfl (lenMap _ _) ?_
  refine AS.move rfl rfl rfl rfl ?_
  refine AS.opsEnd ?_
  refine AS.block ?_
  refine AS.loopI (α := Nat × List Object × Tok) (fun s => s.1 ≤ e.objs.length ∧ s.2.1 = e.objs.take s.1 ∧ s.2.2.grows = true) (fun s => e.objs.length - s.1) (fun s => [(3, .slice (s.2.1.map encObj) s.2.2), (13, .int .i64 s.1)]) [(1, _), (2, _), (11, _), (12, _)] (fun s => G s.2.2 (s.2.1.map encObj).length 8 38 ++ _) (0, [], .full) ⟨Nat.zero_le _, by simp, rfl⟩ (.cons rfl (.cons rfl (.cons rfl (.cons rfl (.cons rfl (.cons rfl (.nil))))))) rfl (fun s hI l0_ih => ?_)
  obtain ⟨i, out, tk⟩ := s
  dsimp only at hI l0_ih ⊢
  refine AS.seq ?_
  refine AS.region rfl ?_
  refine AS.bin rfl rfl rfl rfl rfl (BinR.lss rfl) ?_
  refine AS.opsEnd ?_
  refine AS.seq ?_
  refine AS.cond rfl (fun hc0 => ?_) (fun hc0 => ?_)
  · have hi : i < e.objs.length := by simp only [decide_eq_true_eq] at hc0; omega
    obtain ⟨o, ho⟩ := getAt hi
    have hol : out.length = i := by rw [hI.2.1, List.length_take]; omega
    refine AS.skip ?_
    refine AS.seq ?_
    refine AS.block ?_
    refine AS.seq ?_
    refine AS.region rfl ?_
    refine AS.indexAddr rfl rfl rfl rfl rfl TT7.sl48 (Int.natCast_nonneg _) (map_get _ _ ho) rfl ?_
    refine AS.iload (y := encObj o) rfl rfl rfl rfl TT7.ty38 rfl rfl rfl ?_
    refine AS.allocZ rfl rfl rfl TT7.z38 rfl ?_
    intro b5
    refine AS.store rfl rfl rfl rfl rfl rfl TT7.ty38 rfl rfl ?_
    refine AS.opsEnd ?_
    refine AS.region rfl ?_
    refine AS.move rfl rfl rfl rfl ?_
    refine AS.load (y := encObj o) rfl rfl rfl rfl TT7.ty38 rfl rfl rfl ?_
    refine AS.callP rfl rfl rfl rfl TT7.en66 (own_spec o _ (hch o (List.mem_of_getElem? ho))) ?_
    refine AS.buildSlice1 rfl rfl rfl TT7.sl48 rfl rfl rfl ?_
    refine AS.append1 (a := o) rfl rfl rfl rfl rfl TT7.sl48 hI.2.2 rfl encObj_sz encObj_flat (by omega) ?_
    intro tk1 h1
    refine AS.assign rfl rfl rfl rfl ?_
    refine AS.opsEnd ?_
    refine AS.dropH (G _ _ _ _) [_] rfl ?_
    refine AS.inBlock ?_
    refine AS.region rfl ?_
    refine AS.bin rfl rfl rfl rfl rfl (BinR.add (w64 (by omega) (by omega))) ?_
    refine AS.move rfl rfl rfl rfl ?_
    refine AS.opsEnd ?_
    exact AS.nextI (l0_ih (i + 1, out ++ [o], tk1) ⟨hi, by dsimp only; rw [hI.2.1, List.take_add_one, ho]; rfl, h1⟩ (by dsimp only; omega)) [] (.cons rfl (.cons rfl (.cons rfl (.cons rfl (.cons rfl (.cons rfl (.nil))))))) rfl
  · have hfin : out = e.objs := by rw [hI.2.1, List.take_of_length_le (by simp only [decide_eq_false_iff_not] at hc0; omega)]
    subst hfin
    refine AS.loose 3 rfl ?_
    refine AS.dropF (G _ _ _ _) rfl ?_
    refine AS.exit rfl ?_
    refine AS.seq ?_
    refine AS.region rfl ?_
    refine AS.move rfl rfl rfl rfl ?_
    refine AS.fieldAddr rfl rfl rfl rfl TT7.fl50_3 ?_
    refine AS.store rfl rfl rfl rfl rfl rfl TT7.ty48 rfl rfl ?_
    refine AS.opsEnd ?_
    refine AS.seq ?_
    refine AS.region rfl ?_
    refine AS.load rfl rfl rfl rfl TT7.ty50 rfl rfl rfl ?_
    refine AS.store rfl rfl rfl rfl rfl rfl TT7.ty50 rfl rfl ?_
    refine AS.opsEnd ?_
    refine AS.retW Try.func68 rfl (.cell rfl TT7.ty50 rfl rfl rfl (.nil)) ?_
    exact RWk.drop [_, _] rfl ⟨rfl, rfl⟩
end Go.Proofs.Ytncecheccihjoaa
/- T8 -/
namespace Go.Proofs.Ytncecheccihjoaa.TT8
open Go Go.Proofs.Fw Go.Shelf
theorem en101 : Enters Go.Proofs.Try.prog 101 := enters_of Go.Proofs.Try.func101 (by kernel_rfl) rfl
theorem en102 : Enters Go.Proofs.Try.prog 102 := enters_of Go.Proofs.Try.func102 (by kernel_rfl) rfl
theorem en126 : Enters Go.Proofs.Try.prog 126 := enters_of Go.Proofs.Try.func126 (by kernel_rfl) rfl
theorem en20 : Enters Go.Proofs.Try.prog 20 := enters_of Go.Proofs.Try.func20 (by kernel_rfl) rfl
theorem en21 : Enters Go.Proofs.Try.prog 21 := enters_of Go.Proofs.Try.func21 (by kernel_rfl) rfl
theorem en52 : Enters Go.Proofs.Try.prog 52 := enters_of Go.Proofs.Try.func52 (by kernel_rfl) rfl
theorem en66 : Enters Go.Proofs.Try.prog 66 := enters_of Go.Proofs.Try.func66 (by kernel_rfl) rfl
theorem fl38_0 : fldI Go.Proofs.Try.prog 38 0 = some 0 := by kernel_rfl
theorem fl38_5 : fldI Go.Proofs.Try.prog 38 5 = some 7 := by kernel_rfl
theorem fl50_0 : fldI Go.Proofs.Try.prog 50 0 = some 0 := by kernel_rfl
theorem fl50_1 : fldI Go.Proofs.Try.prog 50 1 = some 1 := by kernel_rfl
theorem fl50_2 : fldI Go.Proofs.Try.prog 50 2 = some 9 := by kernel_rfl
theorem fl50_3 : fldI Go.Proofs.Try.prog 50 3 = some 10 := by kernel_rfl
theorem mixed : Go.Proofs.Try.prog.follows .mixedOrders = true := by kernel_rfl
theorem sl28 : sliI Go.Proofs.Try.prog 28 = some (50, 11, 144) := by kernel_rfl
theorem sl36 : sliI Go.Proofs.Try.prog 36 = some (116, 2, 24) := by kernel_rfl
theorem sl48 : sliI Go.Proofs.Try.prog 48 = some (38, 8, 104) := by kernel_rfl
theorem ty2 : tyI Go.Proofs.Try.prog 2 = some (1, false) := by kernel_rfl
theorem ty35 : tyI Go.Proofs.Try.prog 35 = some (3, true) := by kernel_rfl
theorem ty36 : tyI Go.Proofs.Try.prog 36 = some (1, false) := by kernel_rfl
theorem ty38 : tyI Go.Proofs.Try.prog 38 = some (8, true) := by kernel_rfl
theorem ty47 : tyI Go.Proofs.Try.prog 47 = some (1, false) := by kernel_rfl
theorem ty48 : tyI Go.Proofs.Try.prog 48 = some (1, false) := by kernel_rfl
theorem ty50 : tyI Go.Proofs.Try.prog 50 = some (11, true) := by kernel_rfl
theorem u28 : Go.Proofs.Try.prog.underlying 28 = some (.slice 50) := by kernel_rfl
theorem u36 : Go.Proofs.Try.prog.underlying 36 = some (.slice 116) := by kernel_rfl
theorem u48 : Go.Proofs.Try.prog.underlying 48 = some (.slice 38) := by kernel_rfl
theorem z116 : zI Go.Proofs.Try.prog 116 = some (.agg #[(.string ⟨#[]⟩), (.int .i64 0)]) := by kernel_rfl
theorem z38 : zI Go.Proofs.Try.prog 38 = some (.agg #[(.string ⟨#[]⟩), (.string ⟨#[]⟩), (.string ⟨#[]⟩), (.int .i64 0), (.string ⟨#[]⟩), (.bool false), (.bool false), (.slice none 0 0)]) := by kernel_rfl
theorem z50 : zI Go.Proofs.Try.prog 50 = some (.agg #[(.int .i64 0), (.string ⟨#[]⟩), (.string ⟨#[]⟩), (.string ⟨#[]⟩), (.int .i64 0), (.string ⟨#[]⟩), (.bool false), (.bool false), (.slice none 0 0), (.int .i64 0), (.slice none 0 0)]) := by kernel_rfl
end Go.Proofs.Ytncecheccihjoaa.TT8
namespace Go.Proofs.Ytncecheccihjoaa
open Go Go.Proofs.Fw Go.Proofs
set_option linter.unusedVariables false
set_option linter.unusedSimpArgs false
set_option maxRecDepth 20000
set_option maxHeartbeats 4000000
theorem cmp_spec (a b : Object) (H : AH) (ha : keyFits a.key) (hb : keyFits b.key) : ACalls Try.prog [] 101 [encObj a, encObj b] H (fun x H' => x = .int .i64 (cmpO a b) ∧ H' = H) := by
  refine ACalls.enter (n := 17) Try.func101 rfl rfl (Nat.le_of_ble_eq_true rfl) ?_
  refine AS.seq ?_
  refine AS.region rfl ?_
  refine AS.box rfl rfl rfl rfl rfl ?_
  intro b2
  refine AS.box rfl rfl rfl rfl rfl ?_
  intro b3
  refine AS.assign rfl rfl rfl rfl ?_
  refine AS.opsEnd ?_
  refine AS.seq ?_
  refine AS.block ?_
  refine AS.seq ?_
  refine AS.region rfl ?_
  refine AS.fieldAddr rfl rfl rfl rfl TT8.fl38_0 ?_
  refine AS.load (y := encKey a.key) rfl rfl rfl rfl TT8.ty35 rfl rfl rfl ?_
  refine AS.fieldAddr rfl rfl rfl rfl TT8.fl38_0 ?_
  refine AS.load (y := encKey b.key) rfl rfl rfl rfl TT8.ty35 rfl rfl rfl ?_
  refine AS.callP rfl rfl rfl rfl TT8.en102 (label_less a.key b.key _ ha hb) ?_
  refine AS.assign rfl rfl rfl rfl ?_
  refine AS.opsEnd ?_
  refine AS.cond rfl (fun hc0 => ?_) (fun hc0 => ?_)
  · refine AS.seq ?_
    refine AS.region rfl ?_
    refine AS.assign rfl rfl rfl rfl ?_
    refine AS.opsEnd ?_
    refine AS.retW Try.func101 rfl (.tmp rfl (.nil)) ?_
    refine RWk.drop [_, _] rfl ⟨?_, rfl⟩
    show AV.int _ _ = AV.int _ _
    (simp only [cmpO, hc0]) <;> rfl
  · refine AS.seq ?_
    refine AS.region rfl ?_
    refine AS.fieldAddr rfl rfl rfl rfl TT8.fl38_0 ?_
    refine AS.load (y := encKey b.key) rfl rfl rfl rfl TT8.ty35 rfl rfl rfl ?_
    refine AS.fieldAddr rfl rfl rfl rfl TT8.fl38_0 ?_
    refine AS.load (y := encKey a.key) rfl rfl rfl rfl TT8.ty35 rfl rfl rfl ?_
    refine AS.callP rfl rfl rfl rfl TT8.en102 (label_less b.key a.key _ hb ha) ?_
    refine AS.assign rfl rfl rfl rfl ?_
    refine AS.opsEnd ?_
    refine AS.cond rfl (fun hc1 => ?_) (fun hc1 => ?_)
    · refine AS.seq ?_
      refine AS.region rfl ?_
      refine AS.assign rfl rfl rfl rfl ?_
      refine AS.opsEnd ?_
      refine AS.retW Try.func101 rfl (.tmp rfl (.nil)) ?_
      refine RWk.drop [_, _] rfl ⟨?_, rfl⟩
      show AV.int _ _ = AV.int _ _
      (simp only [cmpO, hc0, hc1]) <;> rfl
    · refine AS.skip ?_
      refine AS.inBlock ?_
      refine AS.seq ?_
      refine AS.region rfl ?_
      refine AS.assign rfl rfl rfl rfl ?_
      refine AS.opsEnd ?_
      refine AS.retW Try.func101 rfl (.tmp rfl (.nil)) ?_
      refine RWk.drop [_, _] rfl ⟨?_, rfl⟩
      show AV.int _ _ = AV.int _ _
      (simp only [cmpO, hc0, hc1]) <;> rfl
theorem insertion_spec (l : List Object) (rs : List AV) (b n cap lo hi : Nat) (H : AH) (hk : ∀ o ∈ l, keyFits o.key) (hn : n = l.length) (hh : hi ≤ n) (hb : n ≤ 1000000) (hlo : lo ≤ hi) : ACalls Try.prog [] 146 [.mslice b 0 n cap, .int .i64 lo, .int .i64 hi, .func (.func 101) [] []] ((b, .row (rowOf encObj l rs) 38) :: H) (fun _ H' => ∃ l', Within l l' lo hi ∧ SortedR l' lo hi ∧ H' = (b, .row (rowOf encObj l' rs) 38) :: H) := by
  refine ACalls.enter (n := 53) Try.func146 rfl rfl (Nat.le_of_ble_eq_true rfl) ?_
  refine AS.seq ?_
  refine AS.region rfl ?_
  refine AS.move rfl rfl rfl rfl ?_
  refine AS.bin rfl rfl rfl rfl rfl (BinR.add (c := ((lo + 1 : Nat) : Int)) (by rw [w64 (by omega) (by omega)]; omega)) ?_
  refine AS.assign rfl rfl rfl rfl ?_
  refine AS.opsEnd ?_
  refine AS.block ?_
  refine AS.loopI (α := Nat × List Object) (fun s => lo < s.1 ∧ (s.1 ≤ hi ∨ s.1 = lo + 1) ∧ Within l s.2 lo hi ∧ SortedR s.2 lo s.1) (fun s => hi - s.1) (fun s => [(8, .int .i64 s.1)]) [(0, _), (1, _), (2, _), (3, _)] (fun s => (b, .row (rowOf encObj s.2 rs) 38) :: H) (lo + 1, l) ⟨Nat.lt_succ_self _, .inr rfl, .refl _ _ _, fun i j x y h1 h2 h3 => by omega⟩ (.cons rfl (.cons rfl (.cons rfl (.cons rfl (.cons rfl (.nil)))))) rfl (fun s hI l0_ih => ?_)
  obtain ⟨i, c⟩ := s
  dsimp only at hI l0_ih ⊢
  refine AS.seq ?_
  refine AS.seq ?_
  refine AS.region rfl ?_
  refine AS.move rfl rfl rfl rfl ?_
  refine AS.move rfl rfl rfl rfl ?_
  refine AS.bin rfl rfl rfl rfl rfl (BinR.lss rfl) ?_
  refine AS.opsEnd ?_
  refine AS.cond rfl (fun hc0 => ?_) (fun hc0 => ?_)
  · have hi1 : i < hi := by simp only [decide_eq_true_eq] at hc0; omega
    obtain ⟨hlt, hle, hW, hS⟩ := hI
    refine AS.skip ?_
    refine AS.seq ?_
    refine AS.block ?_
    refine AS.seq ?_
    refine AS.region rfl ?_
    refine AS.move rfl rfl rfl rfl ?_
    refine AS.assign rfl rfl rfl rfl ?_
    refine AS.opsEnd ?_
    refine AS.block ?_
    refine AS.loopI (α := Nat × List Object) (fun s => lo ≤ s.1 ∧ s.1 ≤ i ∧ Within l s.2 lo hi ∧ InsInv s.2 lo i s.1) (fun s => s.1) (fun s => [(9, .int .i64 s.1)]) [(0, _), (1, _), (2, _), (3, _), (8, _)] (fun s => (b, .row (rowOf encObj s.2 rs) 38) :: H) (i, c) ⟨by omega, Nat.le_refl _, hW, ins_start hS⟩ (.cons rfl (.cons rfl (.cons rfl (.cons rfl (.cons rfl (.cons rfl (.nil))))))) rfl (fun s hJ l1_ih => ?_)
    obtain ⟨j, d⟩ := s
    dsimp only at hJ l1_ih ⊢
    obtain ⟨j1, j2, hW2, hV⟩ := hJ
    have hlen := hW2.len
    have hp := hW2.perm
    refine AS.seq ?_
    refine AS.seq ?_
    refine SA.start1 TT8.mixed rfl ?_
    refine SA.rd 0 [9] rfl (fun env rest next => AS.move rfl rfl rfl rfl next) ?_
    refine SA.rd 1 [1] rfl (fun env rest next => AS.move rfl rfl rfl rfl next) ?_
    refine SA.rd 2 [18, 19] rfl (fun env rest next => AS.bin rfl rfl rfl rfl rfl (BinR.gtr rfl) next) ?_
    refine SA.rd 3 [20] rfl (fun env rest next => AS.move rfl rfl rfl rfl next) ?_
    refine SA.splitT (fun g21 => ?_) (fun g21 => ?_)
    · have hj0 : lo < j := by simp only [decide_eq_true_eq] at g21; omega
      obtain ⟨x, hx⟩ := getSome (l := d) (i := j) (by omega)
      obtain ⟨y, hy⟩ := getSome (l := d) (i := j - 1) (by omega)
      have hm1 : IntKind.i64.wrap ((j : Int) - 1) = ((j - 1 : Nat) : Int) := by rw [w64 (by omega) (by omega)]; omega
      have hj3 : j < n := by omega
      have hj4 : j - 1 < n := by omega
      refine SA.rd 4 [3, 21] rfl (fun env rest next => AS.move rfl rfl rfl rfl next) ?_
      refine SA.rd 5 [0, 21] rfl (fun env rest next => AS.move rfl rfl rfl rfl next) ?_
      refine SA.rd 6 [9, 21] rfl (fun env rest next => AS.move rfl rfl rfl rfl next) ?_
      refine SA.rd 7 [21, 23, 24] rfl (fun env rest next => AS.rowAddr rfl rfl rfl rfl rfl TT8.sl48 j rfl hj3 next) ?_
      refine SA.rd 8 [21, 25] rfl (fun env rest next => AS.loadAt (enc := encObj) rfl rfl rfl rfl TT8.ty38 encObj_sz (fun _ => rfl) hx next) ?_
      refine SA.rd 9 [0, 21] rfl (fun env rest next => AS.move rfl rfl rfl rfl next) ?_
      refine SA.rd 10 [9, 21] rfl (fun env rest next => AS.move rfl rfl rfl rfl next) ?_
      refine SA.rd 11 [21, 28] rfl (fun env rest next => AS.bin rfl rfl rfl rfl rfl (BinR.sub hm1) next) ?_
      refine SA.rd 12 [21, 27, 29] rfl (fun env rest next => AS.rowAddr rfl rfl rfl rfl rfl TT8.sl48 (j - 1) rfl hj4 next) ?_
      refine SA.rd 13 [21, 30] rfl (fun env rest next => AS.loadAt (enc := encObj) rfl rfl rfl rfl TT8.ty38 encObj_sz (fun _ => rfl) hy next) ?_
      refine SA.rd 14 [21, 22, 26, 31] rfl (fun env rest next => AS.callVP rfl rfl rfl rfl rfl TT8.en101 (cmp_spec x y _ (hk _ (hp.mem_iff.1 (List.mem_of_getElem? hx))) (hk _ (hp.mem_iff.1 (List.mem_of_getElem? hy)))) next) ?_
      refine SA.rd 15 [21, 32] rfl (fun env rest next => AS.bin rfl rfl rfl rfl rfl (BinR.lss rfl) next) ?_
      refine SA.rd 16 [21, 33] rfl (fun env rest next => AS.pick rfl rfl rfl rfl rfl next) ?_
      refine SA.done rfl rfl rfl ?_
      refine AS.cond rfl (fun hc1 => ?_) (fun hc1 => ?_)
      · rw [cmp_lt] at hc1
        refine AS.skip ?_
        refine AS.seq ?_
        refine AS.block ?_
        refine SA.start1 TT8.mixed rfl ?_
        refine SA.rd 0 [0] rfl (fun env rest next => AS.move rfl rfl rfl rfl next) ?_
        refine SA.rd 1 [9] rfl (fun env rest next => AS.move rfl rfl rfl rfl next) ?_
        refine SA.rd 2 [0] rfl (fun env rest next => AS.move rfl rfl rfl rfl next) ?_
        refine SA.rd 3 [9] rfl (fun env rest next => AS.move rfl rfl rfl rfl next) ?_
        refine SA.rd 4 [40] rfl (fun env rest next => AS.bin rfl rfl rfl rfl rfl (BinR.sub hm1) next) ?_
        refine SA.rd 5 [0] rfl (fun env rest next => AS.move rfl rfl rfl rfl next) ?_
        refine SA.rd 6 [9] rfl (fun env rest next => AS.move rfl rfl rfl rfl next) ?_
        refine SA.rd 7 [43] rfl (fun env rest next => AS.bin rfl rfl rfl rfl rfl (BinR.sub hm1) next) ?_
        refine SA.rd 8 [42, 44] rfl (fun env rest next => AS.rowAddr rfl rfl rfl rfl rfl TT8.sl48 (j - 1) rfl hj4 next) ?_
        refine SA.rd 9 [45] rfl (fun env rest next => AS.loadAt (enc := encObj) rfl rfl rfl rfl TT8.ty38 encObj_sz (fun _ => rfl) hy next) ?_
        refine SA.rd 10 [0] rfl (fun env rest next => AS.move rfl rfl rfl rfl next) ?_
        refine SA.rd 11 [9] rfl (fun env rest next => AS.move rfl rfl rfl rfl next) ?_
        refine SA.rd 12 [47, 48] rfl (fun env rest next => AS.rowAddr rfl rfl rfl rfl rfl TT8.sl48 j rfl hj3 next) ?_
        refine SA.rd 13 [49] rfl (fun env rest next => AS.loadAt (enc := encObj) rfl rfl rfl rfl TT8.ty38 encObj_sz (fun _ => rfl) hx next) ?_
        refine SA.rd 14 [37, 38] rfl (fun env rest next => AS.rowAddr rfl rfl rfl rfl rfl TT8.sl48 j rfl hj3 next) ?_
        refine SA.chg 15 [46, 51] rfl rfl rfl rfl (fun env rest next => AS.storeAt (enc := encObj) (a := y) rfl rfl rfl rfl rfl encObj_flat TT8.ty38 encObj_sz (by omega) next) ⟨trivial, ⟨trivial, ⟨trivial, ⟨trivial, ⟨trivial, ⟨trivial, ⟨trivial, ⟨trivial, ⟨trivial, ⟨trivial, ⟨(fun H _ env rest next => AS.bin rfl rfl rfl rfl rfl (BinR.sub hm1) next), ⟨(fun H _ env rest next => AS.move rfl rfl rfl rfl next), ⟨(fun H _ env rest next => AS.move rfl rfl rfl rfl next), ⟨trivial, ⟨trivial, trivial⟩⟩⟩⟩⟩⟩⟩⟩⟩⟩⟩⟩⟩⟩⟩ ?_
        refine SA.rdA 16 [39, 41] rfl (fun H env rest next => AS.rowAddr rfl rfl rfl rfl rfl TT8.sl48 (j - 1) rfl hj4 next) ?_
        refine SA.chg 17 [50, 52] rfl rfl rfl rfl (fun env rest next => AS.storeAt (enc := encObj) (a := x) rfl rfl rfl rfl rfl encObj_flat TT8.ty38 encObj_sz (by rw [List.length_set]; omega) next) ⟨trivial, ⟨trivial, ⟨trivial, ⟨trivial, ⟨trivial, ⟨trivial, ⟨trivial, ⟨trivial, ⟨trivial, ⟨trivial, ⟨trivial, ⟨trivial, ⟨trivial, ⟨trivial, ⟨trivial, ⟨trivial, ⟨trivial, trivial⟩⟩⟩⟩⟩⟩⟩⟩⟩⟩⟩⟩⟩⟩⟩⟩⟩ ?_
        refine SA.done rfl rfl rfl ?_
        refine AS.inBlock ?_
        refine AS.region rfl ?_
        refine AS.move rfl rfl rfl rfl ?_
        refine AS.bin rfl rfl rfl rfl rfl (BinR.sub hm1) ?_
        refine AS.assign rfl rfl rfl rfl ?_
        refine AS.opsEnd ?_
        exact AS.nextI (l1_ih (j - 1, sw d j (j - 1) x y) ⟨by omega, by omega, hW2.trans (sw_within hx hy (by omega) (by omega) (by omega) (by omega)), ins_step hV hj0 j2 hx hy hc1⟩ (by dsimp only; omega)) [] (.cons rfl (.cons rfl (.cons rfl (.cons rfl (.cons rfl (.cons rfl (.nil))))))) rfl
      · rw [cmp_lt] at hc1
        have hS2 := ins_end hV j2 (.inr ⟨x, y, hx, hy, hc1⟩)
        refine AS.exit rfl ?_
        refine AS.inBlock ?_
        refine AS.region rfl ?_
        refine AS.move rfl rfl rfl rfl ?_
        refine AS.bin rfl rfl rfl rfl rfl (BinR.add (w64 (by omega) (by omega))) ?_
        refine AS.assign rfl rfl rfl rfl ?_
        refine AS.opsEnd ?_
        exact AS.nextI (l0_ih (i + 1, d) ⟨by omega, .inl hi1, hW2, hS2⟩ (by dsimp only; omega)) [] (.cons rfl (.cons rfl (.cons rfl (.cons rfl (.cons rfl (.nil)))))) rfl
    · refine SA.rd 4 [3, 21] rfl (fun env rest next => AS.pass rfl rfl rfl next) ?_
      refine SA.rd 5 [0, 21] rfl (fun env rest next => AS.pass rfl rfl rfl next) ?_
      refine SA.rd 6 [9, 21] rfl (fun env rest next => AS.pass rfl rfl rfl next) ?_
      refine SA.rd 7 [21, 23, 24] rfl (fun env rest next => AS.pass rfl rfl rfl next) ?_
      refine SA.rd 8 [21, 25] rfl (fun env rest next => AS.pass rfl rfl rfl next) ?_
      refine SA.rd 9 [0, 21] rfl (fun env rest next => AS.pass rfl rfl rfl next) ?_
      refine SA.rd 10 [9, 21] rfl (fun env rest next => AS.pass rfl rfl rfl next) ?_
      refine SA.rd 11 [21, 28] rfl (fun env rest next => AS.pass rfl rfl rfl next) ?_
      refine SA.rd 12 [21, 27, 29] rfl (fun env rest next => AS.pass rfl rfl rfl next) ?_
      refine SA.rd 13 [21, 30] rfl (fun env rest next => AS.pass rfl rfl rfl next) ?_
      refine SA.rd 14 [21, 22, 26, 31] rfl (fun env rest next => AS.pass rfl rfl rfl next) ?_
      refine SA.rd 15 [21, 32] rfl (fun env rest next => AS.pass rfl rfl rfl next) ?_
      refine SA.rd 16 [21, 33] rfl (fun env rest next => AS.pick rfl rfl rfl rfl rfl next) ?_
      refine SA.done rfl rfl rfl ?_
      refine AS.condF rfl ?_
      have hS2 := ins_end hV j2 (.inl (by simp only [decide_eq_false_iff_not] at g21; omega))
      refine AS.exit rfl ?_
      refine AS.inBlock ?_
      refine AS.region rfl ?_
      refine AS.move rfl rfl rfl rfl ?_
      refine AS.bin rfl rfl rfl rfl rfl (BinR.add (w64 (by omega) (by omega))) ?_
      refine AS.assign rfl rfl rfl rfl ?_
      refine AS.opsEnd ?_
      exact AS.nextI (l0_ih (i + 1, d) ⟨by omega, .inl hi1, hW2, hS2⟩ (by dsimp only; omega)) [] (.cons rfl (.cons rfl (.cons rfl (.cons rfl (.cons rfl (.nil)))))) rfl
  · have hi1 : hi ≤ i := by simp only [decide_eq_false_iff_not] at hc0; omega
    obtain ⟨hlt, hle, hW, hS⟩ := hI
    refine AS.exit rfl ?_
    refine AS.rwk ?_
    refine AS.end_ Try.func146 rfl (.nil) ?_
    exact RWk.drop [] rfl ⟨c, hW, hS.sub (Nat.le_refl _) hi1, rfl⟩
end Go.Proofs.Ytncecheccihjoaa
/- T9 -/
namespace Go.Proofs.Ytncecheccihjoaa.TT9
open Go Go.Proofs.Fw Go.Shelf
theorem en101 : Enters Go.Proofs.Try.prog 101 := enters_of Go.Proofs.Try.func101 (by kernel_rfl) rfl
theorem en102 : Enters Go.Proofs.Try.prog 102 := enters_of Go.Proofs.Try.func102 (by kernel_rfl) rfl
theorem en126 : Enters Go.Proofs.Try.prog 126 := enters_of Go.Proofs.Try.func126 (by kernel_rfl) rfl
theorem en175 : Enters Go.Proofs.Try.prog 175 := enters_of Go.Proofs.Try.func175 (by kernel_rfl) rfl
theorem en20 : Enters Go.Proofs.Try.prog 20 := enters_of Go.Proofs.Try.func20 (by kernel_rfl) rfl
theorem en21 : Enters Go.Proofs.Try.prog 21 := enters_of Go.Proofs.Try.func21 (by kernel_rfl) rfl
theorem en52 : Enters Go.Proofs.Try.prog 52 := enters_of Go.Proofs.Try.func52 (by kernel_rfl) rfl
theorem en66 : Enters Go.Proofs.Try.prog 66 := enters_of Go.Proofs.Try.func66 (by kernel_rfl) rfl
theorem fl38_0 : fldI Go.Proofs.Try.prog 38 0 = some 0 := by kernel_rfl
theorem fl38_5 : fldI Go.Proofs.Try.prog 38 5 = some 7 := by kernel_rfl
theorem fl50_0 : fldI Go.Proofs.Try.prog 50 0 = some 0 := by kernel_rfl
theorem fl50_1 : fldI Go.Proofs.Try.prog 50 1 = some 1 := by kernel_rfl
theorem fl50_2 : fldI Go.Proofs.Try.prog 50 2 = some 9 := by kernel_rfl
theorem fl50_3 : fldI Go.Proofs.Try.prog 50 3 = some 10 := by kernel_rfl
theorem mixed : Go.Proofs.Try.prog.follows .mixedOrders = true := by kernel_rfl
theorem sl28 : sliI Go.Proofs.Try.prog 28 = some (50, 11, 144) := by kernel_rfl
theorem sl36 : sliI Go.Proofs.Try.prog 36 = some (116, 2, 24) := by kernel_rfl
theorem sl48 : sliI Go.Proofs.Try.prog 48 = some (38, 8, 104) := by kernel_rfl
theorem ty2 : tyI Go.Proofs.Try.prog 2 = some (1, false) := by kernel_rfl
theorem ty35 : tyI Go.Proofs.Try.prog 35 = some (3, true) := by kernel_rfl
theorem ty36 : tyI Go.Proofs.Try.prog 36 = some (1, false) := by kernel_rfl
theorem ty38 : tyI Go.Proofs.Try.prog 38 = some (8, true) := by kernel_rfl
theorem ty47 : tyI Go.Proofs.Try.prog 47 = some (1, false) := by kernel_rfl
theorem ty48 : tyI Go.Proofs.Try.prog 48 = some (1, false) := by kernel_rfl
theorem ty50 : tyI Go.Proofs.Try.prog 50 = some (11, true) := by kernel_rfl
theorem u28 : Go.Proofs.Try.prog.underlying 28 = some (.slice 50) := by kernel_rfl
theorem u36 : Go.Proofs.Try.prog.underlying 36 = some (.slice 116) := by kernel_rfl
theorem u48 : Go.Proofs.Try.prog.underlying 48 = some (.slice 38) := by kernel_rfl
theorem z116 : zI Go.Proofs.Try.prog 116 = some (.agg #[(.string ⟨#[]⟩), (.int .i64 0)]) := by kernel_rfl
theorem z38 : zI Go.Proofs.Try.prog 38 = some (.agg #[(.string ⟨#[]⟩), (.string ⟨#[]⟩), (.string ⟨#[]⟩), (.int .i64 0), (.string ⟨#[]⟩), (.bool false), (.bool false), (.slice none 0 0)]) := by kernel_rfl
theorem z50 : zI Go.Proofs.Try.prog 50 = some (.agg #[(.int .i64 0), (.string ⟨#[]⟩), (.string ⟨#[]⟩), (.string ⟨#[]⟩), (.int .i64 0), (.string ⟨#[]⟩), (.bool false), (.bool false), (.slice none 0 0), (.int .i64 0), (.slice none 0 0)]) := by kernel_rfl
end Go.Proofs.Ytncecheccihjoaa.TT9
namespace Go.Proofs.Ytncecheccihjoaa
open Go Go.Proofs.Fw Go.Proofs
set_option linter.unusedVariables false
set_option linter.unusedSimpArgs false
set_option maxRecDepth 20000
set_option maxHeartbeats 4000000
theorem swapRange_spec (l : List Object) (rs : List AV) (b n cap lo hi m : Nat) (fv : AV) (H : AH) (hn : n = l.length) (hh : hi + m ≤ n) (hb : n ≤ 1000000) (hlo : lo + m ≤ hi) : ACalls Try.prog [] 175 [.mslice b 0 n cap, .int .i64 lo, .int .i64 hi, .int .i64 m, fv] ((b, .row (rowOf encObj l rs) 38) :: H) (fun _ H' => ∃ l', l'.length = l.length ∧ l'.Perm l ∧ (∀ k, l'[k]? = l[swapAt lo hi m k]?) ∧ H' = (b, .row (rowOf encObj l' rs) 38) :: H) := by
  refine ACalls.enter (n := 38) Try.func175 rfl rfl (Nat.le_of_ble_eq_true rfl) ?_
  refine AS.seq ?_
  refine AS.region rfl ?_
  refine AS.assign rfl rfl rfl rfl ?_
  refine AS.opsEnd ?_
  refine AS.block ?_
  refine AS.loopI (α := Nat × List Object) (fun s => s.1 ≤ m ∧ s.2.length = l.length ∧ s.2.Perm l ∧ ∀ k, s.2[k]? = l[swapAt lo hi s.1 k]?) (fun s => m - s.1) (fun s => [(10, .int .i64 s.1)]) [(0, _), (1, _), (2, _), (3, _)] (fun s => (b, .row (rowOf encObj s.2 rs) 38) :: H) (0, l) ⟨Nat.zero_le _, rfl, .refl _, fun k => by dsimp only [swapAt]; rw [if_neg (by omega), if_neg (by omega)]⟩ (.cons rfl (.cons rfl (.cons rfl (.cons rfl (.cons rfl (.nil)))))) rfl (fun s hI l0_ih => ?_)
  obtain ⟨i, c⟩ := s
  dsimp only at hI l0_ih ⊢
  obtain ⟨hi1, hlen, hp, hs⟩ := hI
  refine AS.seq ?_
  refine AS.seq ?_
  refine AS.region rfl ?_
  refine AS.move rfl rfl rfl rfl ?_
  refine AS.move rfl rfl rfl rfl ?_
  refine AS.bin rfl rfl rfl rfl rfl (BinR.lss rfl) ?_
  refine AS.opsEnd ?_
  refine AS.cond rfl (fun hc0 => ?_) (fun hc0 => ?_)
  · have hi2 : i < m := by simp only [decide_eq_true_eq] at hc0; omega
    obtain ⟨x, hx⟩ := getSome (l := c) (i := lo + i) (by omega)
    obtain ⟨y, hy⟩ := getSome (l := c) (i := hi + i) (by omega)
    have e1 : IntKind.i64.wrap ((lo : Int) + (i : Int)) = ((lo + i : Nat) : Int) := by rw [w64 (by omega) (by omega)]; omega
    have e2 : IntKind.i64.wrap ((hi : Int) + (i : Int)) = ((hi + i : Nat) : Int) := by rw [w64 (by omega) (by omega)]; omega
    have e3 : lo + i < n := by omega
    have e4 : hi + i < n := by omega
    refine AS.skip ?_
    refine AS.seq ?_
    refine AS.block ?_
    refine SA.start1 TT9.mixed rfl ?_
    refine SA.rd 0 [0] rfl (fun env rest next => AS.move rfl rfl rfl rfl next) ?_
    refine SA.rd 1 [1] rfl (fun env rest next => AS.move rfl rfl rfl rfl next) ?_
    refine SA.rd 2 [10] rfl (fun env rest next => AS.move rfl rfl rfl rfl next) ?_
    refine SA.rd 3 [17, 18] rfl (fun env rest next => AS.bin rfl rfl rfl rfl rfl (BinR.add e1) next) ?_
    refine SA.rd 4 [0] rfl (fun env rest next => AS.move rfl rfl rfl rfl next) ?_
    refine SA.rd 5 [2] rfl (fun env rest next => AS.move rfl rfl rfl rfl next) ?_
    refine SA.rd 6 [10] rfl (fun env rest next => AS.move rfl rfl rfl rfl next) ?_
    refine SA.rd 7 [21, 22] rfl (fun env rest next => AS.bin rfl rfl rfl rfl rfl (BinR.add e2) next) ?_
    refine SA.rd 8 [0] rfl (fun env rest next => AS.move rfl rfl rfl rfl next) ?_
    refine SA.rd 9 [2] rfl (fun env rest next => AS.move rfl rfl rfl rfl next) ?_
    refine SA.rd 10 [10] rfl (fun env rest next => AS.move rfl rfl rfl rfl next) ?_
    refine SA.rd 11 [25, 26] rfl (fun env rest next => AS.bin rfl rfl rfl rfl rfl (BinR.add e2) next) ?_
    refine SA.rd 12 [24, 27] rfl (fun env rest next => AS.rowAddr rfl rfl rfl rfl rfl TT9.sl48 (hi + i) rfl e4 next) ?_
    refine SA.rd 13 [28] rfl (fun env rest next => AS.loadAt (enc := encObj) rfl rfl rfl rfl TT9.ty38 encObj_sz (fun _ => rfl) hy next) ?_
    refine SA.rd 14 [0] rfl (fun env rest next => AS.move rfl rfl rfl rfl next) ?_
    refine SA.rd 15 [1] rfl (fun env rest next => AS.move rfl rfl rfl rfl next) ?_
    refine SA.rd 16 [10] rfl (fun env rest next => AS.move rfl rfl rfl rfl next) ?_
    refine SA.rd 17 [31, 32] rfl (fun env rest next => AS.bin rfl rfl rfl rfl rfl (BinR.add e1) next) ?_
    refine SA.rd 18 [30, 33] rfl (fun env rest next => AS.rowAddr rfl rfl rfl rfl rfl TT9.sl48 (lo + i) rfl e3 next) ?_
    refine SA.rd 19 [34] rfl (fun env rest next => AS.loadAt (enc := encObj) rfl rfl rfl rfl TT9.ty38 encObj_sz (fun _ => rfl) hx next) ?_
    refine SA.rd 20 [16, 19] rfl (fun env rest next => AS.rowAddr rfl rfl rfl rfl rfl TT9.sl48 (lo + i) rfl e3 next) ?_
    refine SA.chg 21 [29, 36] rfl rfl rfl rfl (fun env rest next => AS.storeAt (enc := encObj) (a := y) rfl rfl rfl rfl rfl encObj_flat TT9.ty38 encObj_sz (by omega) next) ⟨trivial, ⟨trivial, ⟨trivial, ⟨trivial, ⟨trivial, ⟨trivial, ⟨trivial, ⟨trivial, ⟨trivial, ⟨trivial, ⟨trivial, ⟨trivial, ⟨trivial, ⟨(fun H _ env rest next => AS.bin rfl rfl rfl rfl rfl (BinR.add e2) next), ⟨(fun H _ env rest next => AS.move rfl rfl rfl rfl next), ⟨(fun H _ env rest next => AS.move rfl rfl rfl rfl next), ⟨(fun H _ env rest next => AS.move rfl rfl rfl rfl next), ⟨trivial, ⟨trivial, ⟨trivial, ⟨trivial, trivial⟩⟩⟩⟩⟩⟩⟩⟩⟩⟩⟩⟩⟩⟩⟩⟩⟩⟩⟩⟩⟩ ?_
    refine SA.rdA 22 [20, 23] rfl (fun H env rest next => AS.rowAddr rfl rfl rfl rfl rfl TT9.sl48 (hi + i) rfl e4 next) ?_
    refine SA.chg 23 [35, 37] rfl rfl rfl rfl (fun env rest next => AS.storeAt (enc := encObj) (a := x) rfl rfl rfl rfl rfl encObj_flat TT9.ty38 encObj_sz (by rw [List.length_set]; omega) next) ⟨trivial, ⟨trivial, ⟨trivial, ⟨trivial, ⟨trivial, ⟨trivial, ⟨trivial, ⟨trivial, ⟨trivial, ⟨trivial, ⟨trivial, ⟨trivial, ⟨trivial, ⟨trivial, ⟨trivial, ⟨trivial, ⟨trivial, ⟨trivial, ⟨trivial, ⟨trivial, ⟨trivial, ⟨trivial, ⟨trivial, trivial⟩⟩⟩⟩⟩⟩⟩⟩⟩⟩⟩⟩⟩⟩⟩⟩⟩⟩⟩⟩⟩⟩⟩ ?_
    refine SA.done rfl rfl rfl ?_
    refine AS.inBlock ?_
    refine AS.region rfl ?_
    refine AS.move rfl rfl rfl rfl ?_
    refine AS.bin rfl rfl rfl rfl rfl (BinR.add (w64 (by omega) (by omega))) ?_
    refine AS.assign rfl rfl rfl rfl ?_
    refine AS.opsEnd ?_
    exact AS.nextI (l0_ih (i + 1, sw c (lo + i) (hi + i) x y) ⟨by omega, by rw [sw_len]; exact hlen, (sw_perm hx hy).trans hp, swapAt_step hs (by omega) hx hy⟩ (by dsimp only; omega)) [] (.cons rfl (.cons rfl (.cons rfl (.cons rfl (.cons rfl (.nil)))))) rfl
  · have hi2 : i = m := by simp only [decide_eq_false_iff_not] at hc0; omega
    subst hi2
    refine AS.exit rfl ?_
    refine AS.rwk ?_
    refine AS.end_ Try.func175 rfl (.nil) ?_
    exact RWk.drop [] rfl ⟨c, hlen, hp, hs, rfl⟩
theorem rotate_spec (l : List Object) (rs : List AV) (b n cap lo m hi : Nat) (fv : AV) (H : AH) (hn : n = l.length) (hh : hi ≤ n) (hb : n ≤ 1000000) (h1 : lo < m) (h2 : m < hi) : ACalls Try.prog [] 166 [.mslice b 0 n cap, .int .i64 lo, .int .i64 m, .int .i64 hi, fv] ((b, .row (rowOf encObj l rs) 38) :: H) (fun _ H' => ∃ l', l'.length = l.length ∧ l'.Perm l ∧ (∀ k, l'[k]? = l[rotAt lo m hi k]?) ∧ H' = (b, .row (rowOf encObj l' rs) 38) :: H) := by
  refine ACalls.enter (n := 58) Try.func166 rfl rfl (Nat.le_of_ble_eq_true rfl) ?_
  refine AS.seq ?_
  refine AS.region rfl ?_
  refine AS.move rfl rfl rfl rfl ?_
  refine AS.move rfl rfl rfl rfl ?_
  refine AS.bin rfl rfl rfl rfl rfl (BinR.sub (c := ((m - lo : Nat) : Int)) (by rw [w64 (by omega) (by omega)]; omega)) ?_
  refine AS.assign rfl rfl rfl rfl ?_
  refine AS.opsEnd ?_
  refine AS.seq ?_
  refine AS.region rfl ?_
  refine AS.move rfl rfl rfl rfl ?_
  refine AS.move rfl rfl rfl rfl ?_
  refine AS.bin rfl rfl rfl rfl rfl (BinR.sub (c := ((hi - m : Nat) : Int)) (by rw [w64 (by omega) (by omega)]; omega)) ?_
  refine AS.assign rfl rfl rfl rfl ?_
  refine AS.opsEnd ?_
  refine AS.seq ?_
  refine AS.block ?_
  refine AS.loopI (α := Nat × Nat × List Object) (fun s => 0 < s.1 ∧ 0 < s.2.1 ∧ s.1 ≤ m - lo ∧ s.2.1 ≤ hi - m ∧ s.2.2.length = l.length ∧ s.2.2.Perm l ∧ RotInv l s.2.2 lo m hi s.1 s.2.1) (fun s => s.1 + s.2.1) (fun s => [(10, .int .i64 s.1), (11, .int .i64 s.2.1)]) [(0, _), (2, _), (4, _)] (fun s => (b, .row (rowOf encObj s.2.2 rs) 38) :: H) (m - lo, hi - m, l) ⟨by dsimp only; omega, by dsimp only; omega, Nat.le_refl _, Nat.le_refl _, rfl, .refl _, rot_start l h1 h2⟩ (.cons rfl (.cons rfl (.cons rfl (.cons rfl (.cons rfl (.nil)))))) rfl (fun s hI l0_ih => ?_)
  obtain ⟨i, j, c⟩ := s
  dsimp only at hI l0_ih ⊢
  obtain ⟨i0, j0, hi1, hj1, hlen, hp, hs⟩ := hI
  refine AS.seq ?_
  refine AS.seq ?_
  refine AS.region rfl ?_
  refine AS.move rfl rfl rfl rfl ?_
  refine AS.move rfl rfl rfl rfl ?_
  refine AS.bin rfl rfl rfl rfl rfl (BinR.neq rfl) ?_
  refine AS.opsEnd ?_
  refine AS.cond rfl (fun hc0 => ?_) (fun hc0 => ?_)
  · have hne : i ≠ j := by simp only [decide_eq_true_eq] at hc0; omega
    refine AS.skip ?_
    refine AS.block ?_
    refine AS.seq ?_
    refine AS.region rfl ?_
    refine AS.move rfl rfl rfl rfl ?_
    refine AS.move rfl rfl rfl rfl ?_
    refine AS.bin rfl rfl rfl rfl rfl (BinR.gtr rfl) ?_
    refine AS.opsEnd ?_
    refine AS.cond rfl (fun hc1 => ?_) (fun hc1 => ?_)
    · have hij : j < i := by simp only [decide_eq_true_eq] at hc1; omega
      refine AS.seq ?_
      refine AS.region rfl ?_
      refine AS.move rfl rfl rfl rfl ?_
      refine AS.move rfl rfl rfl rfl ?_
      refine AS.move rfl rfl rfl rfl ?_
      refine AS.bin rfl rfl rfl rfl rfl (BinR.sub (c := ((m - i : Nat) : Int)) (by rw [w64 (by omega) (by omega)]; omega)) ?_
      refine AS.move rfl rfl rfl rfl ?_
      refine AS.move rfl rfl rfl rfl ?_
      refine AS.move rfl rfl rfl rfl ?_
      refine AS.call rfl rfl rfl rfl TT9.en175 (swapRange_spec c rs b n cap (m - i) (m) (j) fv H (by omega) (by omega) hb (by omega)) ?_
      rintro _ _ ⟨c', d1, d2, d3, rfl⟩
      refine AS.opsEnd ?_
      refine AS.region rfl ?_
      refine AS.move rfl rfl rfl rfl ?_
      refine AS.move rfl rfl rfl rfl ?_
      refine AS.bin rfl rfl rfl rfl rfl (BinR.sub (c := ((i - j : Nat) : Int)) (by rw [w64 (by omega) (by omega)]; omega)) ?_
      refine AS.assign rfl rfl rfl rfl ?_
      refine AS.opsEnd ?_
      refine AS.inBlock ?_
      exact AS.nextI (l0_ih (i - j, j, c') ⟨by dsimp only; omega, j0, by dsimp only; omega, hj1, by dsimp only; omega, d2.trans hp, rot_big hs hij (by omega) d3⟩ (by dsimp only; omega)) [] (.cons rfl (.cons rfl (.cons rfl (.cons rfl (.cons rfl (.nil)))))) rfl
    · have hij : i < j := by simp only [decide_eq_false_iff_not] at hc1; omega
      refine AS.seq ?_
      refine AS.region rfl ?_
      refine AS.move rfl rfl rfl rfl ?_
      refine AS.move rfl rfl rfl rfl ?_
      refine AS.move rfl rfl rfl rfl ?_
      refine AS.bin rfl rfl rfl rfl rfl (BinR.sub (c := ((m - i : Nat) : Int)) (by rw [w64 (by omega) (by omega)]; omega)) ?_
      refine AS.move rfl rfl rfl rfl ?_
      refine AS.move rfl rfl rfl rfl ?_
      refine AS.bin rfl rfl rfl rfl rfl (BinR.add (c := ((m + j : Nat) : Int)) (by rw [w64 (by omega) (by omega)]; omega)) ?_
      refine AS.move rfl rfl rfl rfl ?_
      refine AS.bin rfl rfl rfl rfl rfl (BinR.sub (c := ((m + j - i : Nat) : Int)) (by rw [w64 (by omega) (by omega)]; omega)) ?_
      refine AS.move rfl rfl rfl rfl ?_
      refine AS.move rfl rfl rfl rfl ?_
      refine AS.call rfl rfl rfl rfl TT9.en175 (swapRange_spec c rs b n cap (m - i) (m + j - i) (i) fv H (by omega) (by omega) hb (by omega)) ?_
      rintro _ _ ⟨c', d1, d2, d3, rfl⟩
      refine AS.opsEnd ?_
      refine AS.region rfl ?_
      refine AS.move rfl rfl rfl rfl ?_
      refine AS.move rfl rfl rfl rfl ?_
      refine AS.bin rfl rfl rfl rfl rfl (BinR.sub (c := ((j - i : Nat) : Int)) (by rw [w64 (by omega) (by omega)]; omega)) ?_
      refine AS.assign rfl rfl rfl rfl ?_
      refine AS.opsEnd ?_
      refine AS.inBlock ?_
      exact AS.nextI (l0_ih (i, j - i, c') ⟨i0, by dsimp only; omega, hi1, by dsimp only; omega, by dsimp only; omega, d2.trans hp, rot_small hs hij (by omega) d3⟩ (by dsimp only; omega)) [] (.cons rfl (.cons rfl (.cons rfl (.cons rfl (.cons rfl (.nil)))))) rfl
  · have hne : i = j := by simp only [decide_eq_false_iff_not] at hc0; omega
    subst hne
    refine AS.exit rfl ?_
    refine AS.region rfl ?_
    refine AS.move rfl rfl rfl rfl ?_
    refine AS.move rfl rfl rfl rfl ?_
    refine AS.move rfl rfl rfl rfl ?_
    refine AS.bin rfl rfl rfl rfl rfl (BinR.sub (c := ((m - i : Nat) : Int)) (by rw [w64 (by omega) (by omega)]; omega)) ?_
    refine AS.move rfl rfl rfl rfl ?_
    refine AS.move rfl rfl rfl rfl ?_
    refine AS.move rfl rfl rfl rfl ?_
    refine AS.call rfl rfl rfl rfl TT9.en175 (swapRange_spec c rs b n cap (m - i) (m) (i) fv H (by omega) (by omega) hb (by omega)) ?_
    rintro _ _ ⟨c', d1, d2, d3, rfl⟩
    refine AS.opsEnd ?_
    refine AS.rwk ?_
    refine AS.end_ Try.func166 rfl (.nil) ?_
    exact RWk.drop [] rfl ⟨c', by omega, d2.trans hp, rot_end hs (by omega) d3, rfl⟩
end Go.Proofs.Ytncecheccihjoaa
