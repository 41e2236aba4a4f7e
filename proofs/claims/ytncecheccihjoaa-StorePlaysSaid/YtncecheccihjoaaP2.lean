/- A part of the proof: XT6, XT7, XStab, XT8, XT9, XT10, XStab2, XT11, XT12, XT13, XKey. -/
import Derived.Test.YtncecheccihjoaaP1
/- T6 -/
namespace Go.Proofs.Ytncecheccihjoaa.TT6
open Go Go.Proofs.Fw Go.Shelf
theorem en126 : Enters Go.Proofs.Try.prog 126 := enters_of Go.Proofs.Try.func126 (by kernel_rfl) rfl
theorem en20 : Enters Go.Proofs.Try.prog 20 := enters_of Go.Proofs.Try.func20 (by kernel_rfl) rfl
theorem en21 : Enters Go.Proofs.Try.prog 21 := enters_of Go.Proofs.Try.func21 (by kernel_rfl) rfl
theorem en52 : Enters Go.Proofs.Try.prog 52 := enters_of Go.Proofs.Try.func52 (by kernel_rfl) rfl
theorem fl38_0 : fldI Go.Proofs.Try.prog 38 0 = some 0 := by kernel_rfl
theorem fl50_0 : fldI Go.Proofs.Try.prog 50 0 = some 0 := by kernel_rfl
theorem fl50_1 : fldI Go.Proofs.Try.prog 50 1 = some 1 := by kernel_rfl
theorem fl50_2 : fldI Go.Proofs.Try.prog 50 2 = some 9 := by kernel_rfl
theorem fl50_3 : fldI Go.Proofs.Try.prog 50 3 = some 10 := by kernel_rfl
theorem mixed : Go.Proofs.Try.prog.follows .mixedOrders = true := by kernel_rfl
theorem sl28 : sliI Go.Proofs.Try.prog 28 = some (50, 11, 144) := by kernel_rfl
theorem sl48 : sliI Go.Proofs.Try.prog 48 = some (38, 8, 104) := by kernel_rfl
theorem ty2 : tyI Go.Proofs.Try.prog 2 = some (1, false) := by kernel_rfl
theorem ty35 : tyI Go.Proofs.Try.prog 35 = some (3, true) := by kernel_rfl
theorem ty38 : tyI Go.Proofs.Try.prog 38 = some (8, true) := by kernel_rfl
theorem ty47 : tyI Go.Proofs.Try.prog 47 = some (1, false) := by kernel_rfl
theorem ty48 : tyI Go.Proofs.Try.prog 48 = some (1, false) := by kernel_rfl
theorem ty50 : tyI Go.Proofs.Try.prog 50 = some (11, true) := by kernel_rfl
theorem u28 : Go.Proofs.Try.prog.underlying 28 = some (.slice 50) := by kernel_rfl
theorem u48 : Go.Proofs.Try.prog.underlying 48 = some (.slice 38) := by kernel_rfl
end Go.Proofs.Ytncecheccihjoaa.TT6
namespace Go.Proofs.Ytncecheccihjoaa
open Go Go.Proofs.Fw Go.Proofs
set_option linter.unusedVariables false
set_option linter.unusedSimpArgs false
set_option maxRecDepth 20000
set_option maxHeartbeats 4000000
theorem ref_objects (xs ys : List Object) (H : AH) (hl : xs.length ≤ 1000000) (hch : ∀ o ∈ xs, o.charge.length ≤ 1000000) : ACalls Try.prog [] 52 [.slice (xs.map encObj) .any, .slice (ys.map encObj) .any] H (fun x H' => x = .bool (decide (xs = ys)) ∧ H' = H) := by
  refine ACalls.enter (n := 29) Try.func52 rfl rfl (Nat.le_of_ble_eq_true rfl) ?_
  refine AS.seq ?_
  refine AS.region rfl ?_
  refine AS.assign rfl rfl rfl rfl ?_
  refine AS.opsEnd ?_
  refine AS.seq ?_
  refine AS.seq ?_
  refine AS.region rfl ?_
  refine AS.move rfl rfl rfl rfl ?_
  refine AS.len rfl rfl rfl rfl (by first | exact lenT_sl TT6.u48 | exact lenT_ms TT6.u48 | (rw [TT6.u48]; rfl)) rfl (lenMap _ _) ?_
  refine AS.move rfl rfl rfl rfl ?_
  refine AS.len rfl rfl rfl rfl (by first | exact lenT_sl TT6.u48 | exact lenT_ms TT6.u48 | (rw [TT6.u48]; rfl)) rfl (lenMap _ _) ?_
  refine AS.bin rfl rfl rfl rfl rfl (BinR.neq rfl) ?_
  refine AS.opsEnd ?_
  refine AS.cond rfl (fun hc0 => ?_) (fun hc0 => ?_)
  · have hl0 : xs.length ≠ ys.length := fun e => by simp only [decide_eq_true_eq] at hc0; omega
    refine AS.seq ?_
    refine AS.region rfl ?_
    refine AS.assign rfl rfl rfl rfl ?_
    refine AS.opsEnd ?_
    refine AS.retW Try.func52 rfl (.tmp rfl (.nil)) ?_
    refine RWk.drop [] rfl ⟨?_, rfl⟩
    rw [decide_eq_false (fun e => hl0 (by rw [e]))]; rfl
  · have hl0 : xs.length = ys.length := by simp only [decide_eq_false_iff_not] at hc0; omega
    refine AS.skip ?_
    refine AS.seq ?_
    refine AS.seq ?_
    refine AS.region rfl ?_
    refine AS.assign rfl rfl rfl rfl ?_
    refine AS.opsEnd ?_
    refine AS.block ?_
    refine AS.loopI (α := Nat) (fun i => i ≤ xs.length ∧ ∀ j, j < i → xs[j]? = ys[j]?) (fun i => xs.length - i) (fun i => [(5, .int .i64 i)]) [(0, _), (1, _)] (fun i => _) 0 ⟨Nat.zero_le _, fun i h => by omega⟩ (.cons rfl (.cons rfl (.cons rfl (.nil)))) rfl (fun i hI l0_ih => ?_)
    refine AS.seq ?_
    refine AS.seq ?_
    refine AS.region rfl ?_
    refine AS.move rfl rfl rfl rfl ?_
    refine AS.move rfl rfl rfl rfl ?_
    refine AS.len rfl rfl rfl rfl (by first | exact lenT_sl TT6.u48 | exact lenT_ms TT6.u48 | (rw [TT6.u48]; rfl)) rfl (lenMap _ _) ?_
    refine AS.bin rfl rfl rfl rfl rfl (BinR.lss rfl) ?_
    refine AS.opsEnd ?_
    refine AS.cond rfl (fun hc1 => ?_) (fun hc1 => ?_)
    · have hi : i < xs.length := by simp only [decide_eq_true_eq] at hc1; omega
      obtain ⟨r, hr⟩ := getAt hi
      obtain ⟨q, hq⟩ := getAt (l := ys) (i := i) (by omega)
      refine AS.skip ?_
      refine AS.seq ?_
      refine AS.block ?_
      refine AS.seq ?_
      refine SA.start1 TT6.mixed rfl ?_
      refine SA.rd 0 [0] rfl (fun env rest next => AS.move rfl rfl rfl rfl next) ?_
      refine SA.rd 1 [5] rfl (fun env rest next => AS.move rfl rfl rfl rfl next) ?_
      refine SA.rd 2 [18, 19] rfl (fun env rest next => AS.indexAddr rfl rfl rfl rfl rfl TT6.sl48 (Int.natCast_nonneg _) (map_get _ _ hr) rfl next) ?_
      refine SA.rd 3 [20] rfl (fun env rest next => AS.iload (y := encObj r) rfl rfl rfl rfl TT6.ty38 rfl rfl rfl next) ?_
      refine SA.rd 4 [1] rfl (fun env rest next => AS.move rfl rfl rfl rfl next) ?_
      refine SA.rd 5 [5] rfl (fun env rest next => AS.move rfl rfl rfl rfl next) ?_
      refine SA.rd 6 [22, 23] rfl (fun env rest next => AS.indexAddr rfl rfl rfl rfl rfl TT6.sl48 (Int.natCast_nonneg _) (map_get _ _ hq) rfl next) ?_
      refine SA.rd 7 [24] rfl (fun env rest next => AS.iload (y := encObj q) rfl rfl rfl rfl TT6.ty38 rfl rfl rfl next) ?_
      refine SA.rd 8 [21, 25] rfl (fun env rest next => AS.callP rfl rfl rfl rfl TT6.en20 (ref_same r q _ (hch r (List.mem_of_getElem? hr))) next) ?_
      refine SA.rd 9 [26] rfl (fun env rest next => AS.assign rfl rfl rfl rfl next) ?_
      refine SA.done rfl rfl rfl ?_
      refine AS.seq ?_
      refine AS.region rfl ?_
      refine AS.move rfl rfl rfl rfl ?_
      refine AS.not rfl rfl rfl rfl rfl ?_
      refine AS.opsEnd ?_
      refine AS.cond rfl (fun hc2 => ?_) (fun hc2 => ?_)
      · rw [Bool.not_eq_true'] at hc2
        have e3 : r ≠ q := of_decide_eq_false hc2
        refine AS.seq ?_
        refine AS.region rfl ?_
        refine AS.assign rfl rfl rfl rfl ?_
        refine AS.opsEnd ?_
        refine AS.retW Try.func52 rfl (.tmp rfl (.nil)) ?_
        refine RWk.drop [] rfl ⟨?_, rfl⟩
        rw [decide_eq_false (list_no hr hq e3)]; rfl
      · rw [Bool.not_eq_false'] at hc2
        have e3 : r = q := of_decide_eq_true hc2
        refine AS.skip ?_
        refine AS.inBlock ?_
        refine AS.region rfl ?_
        refine AS.move rfl rfl rfl rfl ?_
        refine AS.bin rfl rfl rfl rfl rfl (BinR.add (w64 (by omega) (by omega))) ?_
        refine AS.assign rfl rfl rfl rfl ?_
        refine AS.opsEnd ?_
        exact AS.nextI (l0_ih (i + 1) ⟨hi, upToE hI.2 (by rw [hr, hq, e3])⟩ (by omega)) [] (.cons rfl (.cons rfl (.cons rfl (.nil)))) rfl
    · have hall : xs = ys := list_done hl0 hI.2 (by simp only [decide_eq_false_iff_not] at hc1; omega)
      refine AS.exit rfl ?_
      refine AS.seq ?_
      refine AS.region rfl ?_
      refine AS.assign rfl rfl rfl rfl ?_
      refine AS.opsEnd ?_
      refine AS.retW Try.func52 rfl (.tmp rfl (.nil)) ?_
      refine RWk.drop [] rfl ⟨?_, rfl⟩
      rw [decide_eq_true hall]; rfl
theorem ref_evsame (a b : Evt) (H : AH) (hl : a.objs.length ≤ 1000000) (hc : a.obj.charge.length ≤ 1000000) (hch : ∀ o ∈ a.objs, o.charge.length ≤ 1000000) : ACalls Try.prog [] 21 [encEv a, encEv b] H (fun x H' => x = .bool (decide (a = b)) ∧ H' = H) := by
  refine ACalls.enter (n := 35) Try.func21 rfl rfl (Nat.le_of_ble_eq_true rfl) ?_
  refine AS.seq ?_
  refine AS.region rfl ?_
  refine AS.box rfl rfl rfl rfl rfl ?_
  intro b2
  refine AS.box rfl rfl rfl rfl rfl ?_
  intro b3
  refine AS.assign rfl rfl rfl rfl ?_
  refine AS.opsEnd ?_
  refine AS.seq ?_
  refine AS.region rfl ?_
  refine AS.fieldAddr rfl rfl rfl rfl TT6.fl50_1 ?_
  refine AS.load rfl rfl rfl rfl TT6.ty38 rfl rfl rfl ?_
  refine AS.fieldAddr rfl rfl rfl rfl TT6.fl50_1 ?_
  refine AS.load rfl rfl rfl rfl TT6.ty38 rfl rfl rfl ?_
  refine AS.callP rfl rfl rfl rfl TT6.en20 (ref_same a.obj b.obj _ hc) ?_
  refine AS.assign rfl rfl rfl rfl ?_
  refine AS.opsEnd ?_
  refine AS.seq ?_
  refine AS.region rfl ?_
  refine AS.fieldAddr rfl rfl rfl rfl TT6.fl50_3 ?_
  refine AS.load rfl rfl rfl rfl TT6.ty48 rfl rfl rfl ?_
  refine AS.fieldAddr rfl rfl rfl rfl TT6.fl50_3 ?_
  refine AS.load rfl rfl rfl rfl TT6.ty48 rfl rfl rfl ?_
  refine AS.callP rfl rfl rfl rfl TT6.en52 (ref_objects a.objs b.objs _ hl hch) ?_
  refine AS.assign rfl rfl rfl rfl ?_
  refine AS.opsEnd ?_
  refine AS.seq ?_
  refine AS.region rfl ?_
  refine AS.move rfl rfl rfl rfl ?_
  refine AS.move rfl rfl rfl rfl ?_
  refine AS.splitT 18 rfl (fun g18 => ?_) (fun g18 => ?_)
  · refine AS.move rfl rfl rfl rfl ?_
    refine AS.pick rfl rfl rfl rfl rfl ?_
    refine AS.move rfl rfl rfl rfl ?_
    refine AS.splitT 21 rfl (fun g21 => ?_) (fun g21 => ?_)
    · refine AS.fieldAddr rfl rfl rfl rfl TT6.fl50_0 ?_
      refine AS.load rfl rfl rfl rfl TT6.ty47 rfl rfl rfl ?_
      refine AS.fieldAddr rfl rfl rfl rfl TT6.fl50_0 ?_
      refine AS.load rfl rfl rfl rfl TT6.ty47 rfl rfl rfl ?_
      refine AS.bin rfl rfl rfl rfl rfl (BinR.eql rfl) ?_
      refine AS.pick rfl rfl rfl rfl rfl ?_
      refine AS.move rfl rfl rfl rfl ?_
      refine AS.splitT 28 rfl (fun g28 => ?_) (fun g28 => ?_)
      · refine AS.fieldAddr rfl rfl rfl rfl TT6.fl50_2 ?_
        refine AS.load rfl rfl rfl rfl TT6.ty2 rfl rfl rfl ?_
        refine AS.fieldAddr rfl rfl rfl rfl TT6.fl50_2 ?_
        refine AS.load rfl rfl rfl rfl TT6.ty2 rfl rfl rfl ?_
        refine AS.bin rfl rfl rfl rfl rfl (BinR.eql rfl) ?_
        refine AS.pick rfl rfl rfl rfl rfl ?_
        refine AS.assign rfl rfl rfl rfl ?_
        refine AS.opsEnd ?_
        refine AS.retW Try.func21 rfl (.tmp rfl (.nil)) ?_
        refine RWk.drop [_, _] rfl ⟨?_, rfl⟩
        rw [← evEq]
        show AV.bool _ = AV.bool _
        (simp only [Bool.and_true, Bool.true_and, Bool.and_false, Bool.false_and, g18, g21, g28]) <;> rfl
      · refine AS.pass rfl rfl rfl ?_
        refine AS.pass rfl rfl rfl ?_
        refine AS.pass rfl rfl rfl ?_
        refine AS.pass rfl rfl rfl ?_
        refine AS.pass rfl rfl rfl ?_
        refine AS.pick rfl rfl rfl rfl rfl ?_
        refine AS.assign rfl rfl rfl rfl ?_
        refine AS.opsEnd ?_
        refine AS.retW Try.func21 rfl (.tmp rfl (.nil)) ?_
        refine RWk.drop [_, _] rfl ⟨?_, rfl⟩
        rw [← evEq]
        show AV.bool _ = AV.bool _
        (simp only [Bool.and_true, Bool.true_and, Bool.and_false, Bool.false_and, g18, g21, g28]) <;> rfl
    · refine AS.pass rfl rfl rfl ?_
      refine AS.pass rfl rfl rfl ?_
      refine AS.pass rfl rfl rfl ?_
      refine AS.pass rfl rfl rfl ?_
      refine AS.pass rfl rfl rfl ?_
      refine AS.pick rfl rfl rfl rfl rfl ?_
      refine AS.move rfl rfl rfl rfl ?_
      refine AS.pass rfl rfl rfl ?_
      refine AS.pass rfl rfl rfl ?_
      refine AS.pass rfl rfl rfl ?_
      refine AS.pass rfl rfl rfl ?_
      refine AS.pass rfl rfl rfl ?_
      refine AS.pick rfl rfl rfl rfl rfl ?_
      refine AS.assign rfl rfl rfl rfl ?_
      refine AS.opsEnd ?_
      refine AS.retW Try.func21 rfl (.tmp rfl (.nil)) ?_
      refine RWk.drop [_, _] rfl ⟨?_, rfl⟩
      rw [← evEq]
      show AV.bool _ = AV.bool _
      (simp only [Bool.and_true, Bool.true_and, Bool.and_false, Bool.false_and, g18, g21]) <;> rfl
  · refine AS.pass rfl rfl rfl ?_
    refine AS.pick rfl rfl rfl rfl rfl ?_
    refine AS.move rfl rfl rfl rfl ?_
    refine AS.pass rfl rfl rfl ?_
    refine AS.pass rfl rfl rfl ?_
    refine AS.pass rfl rfl rfl ?_
    refine AS.pass rfl rfl rfl ?_
    refine AS.pass rfl rfl rfl ?_
    refine AS.pick rfl rfl rfl rfl rfl ?_
    refine AS.move rfl rfl rfl rfl ?_
    refine AS.pass rfl rfl rfl ?_
    refine AS.pass rfl rfl rfl ?_
    refine AS.pass rfl rfl rfl ?_
    refine AS.pass rfl rfl rfl ?_
    refine AS.pass rfl rfl rfl ?_
    refine AS.pick rfl rfl rfl rfl rfl ?_
    refine AS.assign rfl rfl rfl rfl ?_
    refine AS.opsEnd ?_
    refine AS.retW Try.func21 rfl (.tmp rfl (.nil)) ?_
    refine RWk.drop [_, _] rfl ⟨?_, rfl⟩
    rw [← evEq]
    show AV.bool _ = AV.bool _
    (simp only [Bool.and_true, Bool.true_and, Bool.and_false, Bool.false_and, g18]) <;> rfl
theorem ref_events (xs ys : List Evt) (H : AH) (hl : xs.length ≤ 1000000) (hch : ∀ e ∈ xs, e.objs.length ≤ 1000000 ∧ e.obj.charge.length ≤ 1000000 ∧ ∀ o ∈ e.objs, o.charge.length ≤ 1000000) : ACalls Try.prog [] 25 [.slice (xs.map encEv) .any, .slice (ys.map encEv) .any] H (fun x H' => x = .bool (decide (xs = ys)) ∧ H' = H) := by
  refine ACalls.enter (n := 29) Try.func25 rfl rfl (Nat.le_of_ble_eq_true rfl) ?_
  refine AS.seq ?_
  refine AS.region rfl ?_
  refine AS.assign rfl rfl rfl rfl ?_
  refine AS.opsEnd ?_
  refine AS.seq ?_
  refine AS.seq ?_
  refine AS.region rfl ?_
  refine AS.move rfl rfl rfl rfl ?_
  refine AS.len rfl rfl rfl rfl (by first | exact lenT_sl TT6.u28 | exact lenT_ms TT6.u28 | (rw [TT6.u28]; rfl)) rfl (lenMap _ _) ?_
  refine AS.move rfl rfl rfl rfl ?_
  refine AS.len rfl rfl rfl rfl (by first | exact lenT_sl TT6.u28 | exact lenT_ms TT6.u28 | (rw [TT6.u28]; rfl)) rfl (lenMap _ _) ?_
  refine AS.bin rfl rfl rfl rfl rfl (BinR.neq rfl) ?_
  refine AS.opsEnd ?_
  refine AS.cond rfl (fun hc0 => ?_) (fun hc0 => ?_)
  · have hl0 : xs.length ≠ ys.length := fun e => by simp only [decide_eq_true_eq] at hc0; omega
    refine AS.seq ?_
    refine AS.region rfl ?_
    refine AS.assign rfl rfl rfl rfl ?_
    refine AS.opsEnd ?_
    refine AS.retW Try.func25 rfl (.tmp rfl (.nil)) ?_
    refine RWk.drop [] rfl ⟨?_, rfl⟩
    rw [decide_eq_false (fun e => hl0 (by rw [e]))]; rfl
  · have hl0 : xs.length = ys.length := by simp only [decide_eq_false_iff_not] at hc0; omega
    refine AS.skip ?_
    refine AS.seq ?_
    refine AS.seq ?_
    refine AS.region rfl ?_
    refine AS.assign rfl rfl rfl rfl ?_
    refine AS.opsEnd ?_
    refine AS.block ?_
    refine AS.loopI (α := Nat) (fun i => i ≤ xs.length ∧ ∀ j, j < i → xs[j]? = ys[j]?) (fun i => xs.length - i) (fun i => [(5, .int .i64 i)]) [(0, _), (1, _)] (fun i => _) 0 ⟨Nat.zero_le _, fun i h => by omega⟩ (.cons rfl (.cons rfl (.cons rfl (.nil)))) rfl (fun i hI l0_ih => ?_)
    refine AS.seq ?_
    refine AS.seq ?_
    refine AS.region rfl ?_
    refine AS.move rfl rfl rfl rfl ?_
    refine AS.move rfl rfl rfl rfl ?_
    refine AS.len rfl rfl rfl rfl (by first | exact lenT_sl TT6.u28 | exact lenT_ms TT6.u28 | (rw [TT6.u28]; rfl)) rfl (lenMap _ _) ?_
    refine AS.bin rfl rfl rfl rfl rfl (BinR.lss rfl) ?_
    refine AS.opsEnd ?_
    refine AS.cond rfl (fun hc1 => ?_) (fun hc1 => ?_)
    · have hi : i < xs.length := by simp only [decide_eq_true_eq] at hc1; omega
      obtain ⟨r, hr⟩ := getAt hi
      obtain ⟨q, hq⟩ := getAt (l := ys) (i := i) (by omega)
      refine AS.skip ?_
      refine AS.seq ?_
      refine AS.block ?_
      refine AS.seq ?_
      refine SA.start1 TT6.mixed rfl ?_
      refine SA.rd 0 [0] rfl (fun env rest next => AS.move rfl rfl rfl rfl next) ?_
      refine SA.rd 1 [5] rfl (fun env rest next => AS.move rfl rfl rfl rfl next) ?_
      refine SA.rd 2 [18, 19] rfl (fun env rest next => AS.indexAddr rfl rfl rfl rfl rfl TT6.sl28 (Int.natCast_nonneg _) (map_get _ _ hr) rfl next) ?_
      refine SA.rd 3 [20] rfl (fun env rest next => AS.iload (y := encEv r) rfl rfl rfl rfl TT6.ty50 rfl rfl rfl next) ?_
      refine SA.rd 4 [1] rfl (fun env rest next => AS.move rfl rfl rfl rfl next) ?_
      refine SA.rd 5 [5] rfl (fun env rest next => AS.move rfl rfl rfl rfl next) ?_
      refine SA.rd 6 [22, 23] rfl (fun env rest next => AS.indexAddr rfl rfl rfl rfl rfl TT6.sl28 (Int.natCast_nonneg _) (map_get _ _ hq) rfl next) ?_
      refine SA.rd 7 [24] rfl (fun env rest next => AS.iload (y := encEv q) rfl rfl rfl rfl TT6.ty50 rfl rfl rfl next) ?_
      refine SA.rd 8 [21, 25] rfl (fun env rest next => AS.callP rfl rfl rfl rfl TT6.en21 (ref_evsame r q _ (hch r (List.mem_of_getElem? hr)).1 (hch r (List.mem_of_getElem? hr)).2.1 (hch r (List.mem_of_getElem? hr)).2.2) next) ?_
      refine SA.rd 9 [26] rfl (fun env rest next => AS.assign rfl rfl rfl rfl next) ?_
      refine SA.done rfl rfl rfl ?_
      refine AS.seq ?_
      refine AS.region rfl ?_
      refine AS.move rfl rfl rfl rfl ?_
      refine AS.not rfl rfl rfl rfl rfl ?_
      refine AS.opsEnd ?_
      refine AS.cond rfl (fun hc2 => ?_) (fun hc2 => ?_)
      · rw [Bool.not_eq_true'] at hc2
        have e3 : r ≠ q := of_decide_eq_false hc2
        refine AS.seq ?_
        refine AS.region rfl ?_
        refine AS.assign rfl rfl rfl rfl ?_
        refine AS.opsEnd ?_
        refine AS.retW Try.func25 rfl (.tmp rfl (.nil)) ?_
        refine RWk.drop [] rfl ⟨?_, rfl⟩
        rw [decide_eq_false (list_no hr hq e3)]; rfl
      · rw [Bool.not_eq_false'] at hc2
        have e3 : r = q := of_decide_eq_true hc2
        refine AS.skip ?_
        refine AS.inBlock ?_
        refine AS.region rfl ?_
        refine AS.move rfl rfl rfl rfl ?_
        refine AS.bin rfl rfl rfl rfl rfl (BinR.add (w64 (by omega) (by omega))) ?_
        refine AS.assign rfl rfl rfl rfl ?_
        refine AS.opsEnd ?_
        exact AS.nextI (l0_ih (i + 1) ⟨hi, upToE hI.2 (by rw [hr, hq, e3])⟩ (by omega)) [] (.cons rfl (.cons rfl (.cons rfl (.nil)))) rfl
    · have hall : xs = ys := list_done hl0 hI.2 (by simp only [decide_eq_false_iff_not] at hc1; omega)
      refine AS.exit rfl ?_
      refine AS.seq ?_
      refine AS.region rfl ?_
      refine AS.assign rfl rfl rfl rfl ?_
      refine AS.opsEnd ?_
      refine AS.retW Try.func25 rfl (.tmp rfl (.nil)) ?_
      refine RWk.drop [] rfl ⟨?_, rfl⟩
      rw [decide_eq_true hall]; rfl
theorem ref_sorted (l : List Object) (H : AH) (hl : l.length ≤ 1000000) (hk : ∀ o ∈ l, keyFits o.key) : ACalls Try.prog [] 103 [.slice (l.map encObj) .any] H (fun x H' => x = .slice ((sortO l).map encObj) .any ∧ H' = H) := by
  refine ACalls.enter (n := 62) Try.func103 rfl rfl (Nat.le_of_ble_eq_true rfl) ?_
  refine AS.seq ?_
  refine AS.region rfl ?_
  refine AS.assign rfl rfl rfl rfl ?_
  refine AS.opsEnd ?_
  refine AS.seq ?_
  refine AS.region rfl ?_
  refine AS.assign rfl rfl rfl rfl ?_
  refine AS.opsEnd ?_
  refine AS.seq ?_
  refine AS.seq ?_
  refine AS.loose 3 rfl ?_
  refine AS.region rfl ?_
  refine AS.assign rfl rfl rfl rfl ?_
  refine AS.opsEnd ?_
  refine AS.block ?_
  refine AS.loopI (α := Nat × List Object) (fun s => s.1 ≤ l.length ∧ s.2 = sortO (l.take s.1)) (fun s => l.length - s.1) (fun s => [(3, .slice (s.2.map encObj) .any), (4, .int .i64 s.1)]) [(0, _)] (fun s => H) (0, []) ⟨Nat.zero_le _, by simp [sortO]⟩ (.cons rfl (.cons rfl (.cons rfl (.nil)))) rfl (fun s hI l0_ih => ?_)
  obtain ⟨i, out⟩ := s
  dsimp only at hI l0_ih ⊢
  refine AS.seq ?_
  refine AS.seq ?_
  refine AS.region rfl ?_
  refine AS.move rfl rfl rfl rfl ?_
  refine AS.move rfl rfl rfl rfl ?_
  refine AS.len rfl rfl rfl rfl (by first | exact lenT_sl TT6.u48 | exact lenT_ms TT6.u48 | (rw [TT6.u48]; rfl)) rfl (lenMap _ _) ?_
  refine AS.bin rfl rfl rfl rfl rfl (BinR.lss rfl) ?_
  refine AS.opsEnd ?_
  refine AS.cond rfl (fun hc0 => ?_) (fun hc0 => ?_)
  · have hi : i < l.length := by simp only [decide_eq_true_eq] at hc0; omega
    obtain ⟨o, ho⟩ := getAt hi
    have hout : out.length = i := by rw [hI.2, sortO_len, List.length_take]; omega
    have hmem : ∀ x ∈ out, x ∈ l := fun x hx => List.mem_of_mem_take (mem_sortO (hI.2 ▸ hx))
    refine AS.skip ?_
    refine AS.seq ?_
    refine AS.block ?_
    refine AS.seq ?_
    refine AS.region rfl ?_
    refine AS.assign rfl rfl rfl rfl ?_
    refine AS.opsEnd ?_
    refine AS.seq ?_
    refine AS.region rfl ?_
    refine AS.assign rfl rfl rfl rfl ?_
    refine AS.opsEnd ?_
    refine AS.seq ?_
    refine AS.seq ?_
    refine AS.region rfl ?_
    refine AS.assign rfl rfl rfl rfl ?_
    refine AS.opsEnd ?_
    refine AS.block ?_
    refine AS.loopI (α := Nat × List Object × Bool × Tok) (fun s => s.1 ≤ out.length ∧ inner o out s.1 s.2.1 s.2.2.1 ∧ s.2.2.2.grows = true) (fun s => out.length - s.1) (fun s => [(5, .slice (s.2.1.map encObj) s.2.2.2), (6, .bool s.2.2.1), (7, .int .i64 s.1)]) [(0, _), (3, _), (4, _)] (fun s => G s.2.2.2 (s.2.1.map encObj).length 8 38 ++ H) (0, [], false, .full) ⟨Nat.zero_le _, inner_start _ _, rfl⟩ (.cons rfl (.cons rfl (.cons rfl (.cons rfl (.cons rfl (.cons rfl (.nil))))))) rfl (fun s hJ l1_ih => ?_)
    obtain ⟨k, nx, dn, tk⟩ := s
    dsimp only at hJ l1_ih ⊢
    refine AS.seq ?_
    refine AS.seq ?_
    refine AS.region rfl ?_
    refine AS.move rfl rfl rfl rfl ?_
    refine AS.move rfl rfl rfl rfl ?_
    refine AS.len rfl rfl rfl rfl (by first | exact lenT_sl TT6.u48 | exact lenT_ms TT6.u48 | (rw [TT6.u48]; rfl)) rfl (lenMap _ _) ?_
    refine AS.bin rfl rfl rfl rfl rfl (BinR.lss rfl) ?_
    refine AS.opsEnd ?_
    refine AS.cond rfl (fun hc1 => ?_) (fun hc1 => ?_)
    · have hkl : k < out.length := by simp only [decide_eq_true_eq] at hc1; omega
      obtain ⟨x, hx⟩ := getAt hkl
      refine AS.skip ?_
      refine AS.seq ?_
      refine AS.block ?_
      refine AS.seq ?_
      refine SA.start1 TT6.mixed rfl ?_
      refine SA.rd 0 [0] rfl (fun env rest next => AS.move rfl rfl rfl rfl next) ?_
      refine SA.rd 1 [4] rfl (fun env rest next => AS.move rfl rfl rfl rfl next) ?_
      refine SA.rd 2 [21, 22] rfl (fun env rest next => AS.indexAddr rfl rfl rfl rfl rfl TT6.sl48 (Int.natCast_nonneg _) (map_get _ _ ho) rfl next) ?_
      refine SA.rd 3 [23] rfl (fun env rest next => AS.ifieldAddr rfl rfl rfl rfl TT6.fl38_0 next) ?_
      refine SA.rd 4 [24] rfl (fun env rest next => AS.iload (y := encKey o.key) rfl rfl rfl rfl TT6.ty35 rfl rfl rfl next) ?_
      refine SA.rd 5 [3] rfl (fun env rest next => AS.move rfl rfl rfl rfl next) ?_
      refine SA.rd 6 [7] rfl (fun env rest next => AS.move rfl rfl rfl rfl next) ?_
      refine SA.rd 7 [26, 27] rfl (fun env rest next => AS.indexAddr rfl rfl rfl rfl rfl TT6.sl48 (Int.natCast_nonneg _) (map_get _ _ hx) rfl next) ?_
      refine SA.rd 8 [28] rfl (fun env rest next => AS.ifieldAddr rfl rfl rfl rfl TT6.fl38_0 next) ?_
      refine SA.rd 9 [29] rfl (fun env rest next => AS.iload (y := encKey x.key) rfl rfl rfl rfl TT6.ty35 rfl rfl rfl next) ?_
      refine SA.rd 10 [25, 30] rfl (fun env rest next => AS.callP rfl rfl rfl rfl TT6.en126 (ref_less o.key x.key _ (hk _ (List.mem_of_getElem? ho)) (hk _ (hmem _ (List.mem_of_getElem? hx)))) next) ?_
      refine SA.rd 11 [31] rfl (fun env rest next => AS.assign rfl rfl rfl rfl next) ?_
      refine SA.done rfl rfl rfl ?_
      refine AS.seq ?_
      refine AS.seq ?_
      refine AS.region rfl ?_
      refine AS.move rfl rfl rfl rfl ?_
      refine AS.not rfl rfl rfl rfl rfl ?_
      refine AS.move rfl rfl rfl rfl ?_
      refine AS.splitT 34 rfl (fun g34 => ?_) (fun g34 => ?_)
      · rw [Bool.not_eq_true'] at g34
        subst g34
        refine AS.move rfl rfl rfl rfl ?_
        refine AS.pick rfl rfl rfl rfl rfl ?_
        refine AS.opsEnd ?_
        refine AS.cond rfl (fun hc2 => ?_) (fun hc2 => ?_)
        · refine AS.seq ?_
          refine AS.region rfl ?_
          refine AS.move rfl rfl rfl rfl ?_
          refine AS.move rfl rfl rfl rfl ?_
          refine AS.move rfl rfl rfl rfl ?_
          refine AS.indexAddr rfl rfl rfl rfl rfl TT6.sl48 (Int.natCast_nonneg _) (map_get _ _ ho) rfl ?_
          refine AS.iload (y := encObj o) rfl rfl rfl rfl TT6.ty38 rfl rfl rfl ?_
          refine AS.buildSlice1 rfl rfl rfl TT6.sl48 rfl rfl rfl ?_
          refine AS.append1 (a := o) rfl rfl rfl rfl rfl TT6.sl48 hJ.2.2 rfl encObj_sz encObj_flat (by have := inner_len2 hJ.2.1 hx; (try simp only [List.length_append, List.length_singleton]); omega) ?_
          intro tk1 h1
          refine AS.assign rfl rfl rfl rfl ?_
          refine AS.opsEnd ?_
          refine AS.region rfl ?_
          refine AS.assign rfl rfl rfl rfl ?_
          refine AS.opsEnd ?_
          refine AS.region rfl ?_
          refine AS.move rfl rfl rfl rfl ?_
          refine AS.move rfl rfl rfl rfl ?_
          refine AS.move rfl rfl rfl rfl ?_
          refine AS.indexAddr rfl rfl rfl rfl rfl TT6.sl48 (Int.natCast_nonneg _) (map_get _ _ hx) rfl ?_
          refine AS.iload (y := encObj x) rfl rfl rfl rfl TT6.ty38 rfl rfl rfl ?_
          refine AS.buildSlice1 rfl rfl rfl TT6.sl48 rfl rfl rfl ?_
          refine AS.append1 (a := x) rfl rfl rfl rfl rfl TT6.sl48 h1 rfl encObj_sz encObj_flat (by have := inner_len2 hJ.2.1 hx; (try simp only [List.length_append, List.length_singleton]); omega) ?_
          intro tk2 h2
          refine AS.assign rfl rfl rfl rfl ?_
          refine AS.opsEnd ?_
          refine AS.inBlock ?_
          refine AS.region rfl ?_
          refine AS.move rfl rfl rfl rfl ?_
          refine AS.bin rfl rfl rfl rfl rfl (BinR.add (w64 (by omega) (by omega))) ?_
          refine AS.assign rfl rfl rfl rfl ?_
          refine AS.opsEnd ?_
          exact AS.nextI (l1_ih (k + 1, nx ++ [o] ++ [x], true, tk2) ⟨hkl, inner_here hJ.2.1 hx hc2, h2⟩ (by dsimp only; omega)) [] (.cons rfl (.cons rfl (.cons rfl (.cons rfl (.cons rfl (.cons rfl (.nil))))))) rfl
        · refine AS.skip ?_
          refine AS.region rfl ?_
          refine AS.move rfl rfl rfl rfl ?_
          refine AS.move rfl rfl rfl rfl ?_
          refine AS.move rfl rfl rfl rfl ?_
          refine AS.indexAddr rfl rfl rfl rfl rfl TT6.sl48 (Int.natCast_nonneg _) (map_get _ _ hx) rfl ?_
          refine AS.iload (y := encObj x) rfl rfl rfl rfl TT6.ty38 rfl rfl rfl ?_
          refine AS.buildSlice1 rfl rfl rfl TT6.sl48 rfl rfl rfl ?_
          refine AS.append1 (a := x) rfl rfl rfl rfl rfl TT6.sl48 hJ.2.2 rfl encObj_sz encObj_flat (by have := inner_len2 hJ.2.1 hx; (try simp only [List.length_append, List.length_singleton]); omega) ?_
          intro tk2 h2
          refine AS.assign rfl rfl rfl rfl ?_
          refine AS.opsEnd ?_
          refine AS.inBlock ?_
          refine AS.region rfl ?_
          refine AS.move rfl rfl rfl rfl ?_
          refine AS.bin rfl rfl rfl rfl rfl (BinR.add (w64 (by omega) (by omega))) ?_
          refine AS.assign rfl rfl rfl rfl ?_
          refine AS.opsEnd ?_
          exact AS.nextI (l1_ih (k + 1, nx ++ [x], false, tk2) ⟨hkl, inner_on hJ.2.1 hx hc2, h2⟩ (by dsimp only; omega)) [] (.cons rfl (.cons rfl (.cons rfl (.cons rfl (.cons rfl (.cons rfl (.nil))))))) rfl
      · rw [Bool.not_eq_false'] at g34
        subst g34
        refine AS.pass rfl rfl rfl ?_
        refine AS.pick rfl rfl rfl rfl rfl ?_
        refine AS.opsEnd ?_
        refine AS.condF rfl ?_
        refine AS.skip ?_
        refine AS.region rfl ?_
        refine AS.move rfl rfl rfl rfl ?_
        refine AS.move rfl rfl rfl rfl ?_
        refine AS.move rfl rfl rfl rfl ?_
        refine AS.indexAddr rfl rfl rfl rfl rfl TT6.sl48 (Int.natCast_nonneg _) (map_get _ _ hx) rfl ?_
        refine AS.iload (y := encObj x) rfl rfl rfl rfl TT6.ty38 rfl rfl rfl ?_
        refine AS.buildSlice1 rfl rfl rfl TT6.sl48 rfl rfl rfl ?_
        refine AS.append1 (a := x) rfl rfl rfl rfl rfl TT6.sl48 hJ.2.2 rfl encObj_sz encObj_flat (by have := inner_len2 hJ.2.1 hx; (try simp only [List.length_append, List.length_singleton]); omega) ?_
        intro tk2 h2
        refine AS.assign rfl rfl rfl rfl ?_
        refine AS.opsEnd ?_
        refine AS.inBlock ?_
        refine AS.region rfl ?_
        refine AS.move rfl rfl rfl rfl ?_
        refine AS.bin rfl rfl rfl rfl rfl (BinR.add (w64 (by omega) (by omega))) ?_
        refine AS.assign rfl rfl rfl rfl ?_
        refine AS.opsEnd ?_
        exact AS.nextI (l1_ih (k + 1, nx ++ [x], true, tk2) ⟨hkl, inner_done hJ.2.1 hx, h2⟩ (by dsimp only; omega)) [] (.cons rfl (.cons rfl (.cons rfl (.cons rfl (.cons rfl (.cons rfl (.nil))))))) rfl
    · have hkl : out.length ≤ k := by simp only [decide_eq_false_iff_not] at hc1; omega
      refine AS.exit rfl ?_
      refine AS.seq ?_
      refine AS.seq ?_
      refine AS.region rfl ?_
      refine AS.move rfl rfl rfl rfl ?_
      refine AS.not rfl rfl rfl rfl rfl ?_
      refine AS.opsEnd ?_
      refine AS.cond rfl (fun hc3 => ?_) (fun hc3 => ?_)
      · rw [Bool.not_eq_true'] at hc3
        subst hc3
        refine AS.region rfl ?_
        refine AS.move rfl rfl rfl rfl ?_
        refine AS.move rfl rfl rfl rfl ?_
        refine AS.move rfl rfl rfl rfl ?_
        refine AS.indexAddr rfl rfl rfl rfl rfl TT6.sl48 (Int.natCast_nonneg _) (map_get _ _ ho) rfl ?_
        refine AS.iload (y := encObj o) rfl rfl rfl rfl TT6.ty38 rfl rfl rfl ?_
        refine AS.buildSlice1 rfl rfl rfl TT6.sl48 rfl rfl rfl ?_
        refine AS.append1 (a := o) rfl rfl rfl rfl rfl TT6.sl48 hJ.2.2 rfl encObj_sz encObj_flat (by have := inner_len hJ.2.1; (try simp only [List.length_append, List.length_singleton]); omega) ?_
        intro tk1 h1
        refine AS.assign rfl rfl rfl rfl ?_
        refine AS.opsEnd ?_
        refine AS.region rfl ?_
        refine AS.move rfl rfl rfl rfl ?_
        refine AS.assign rfl rfl rfl rfl ?_
        refine AS.opsEnd ?_
        refine AS.loose 3 rfl ?_
        refine AS.dropH [] (G _ _ _ _) rfl ?_
        refine AS.inBlock ?_
        refine AS.region rfl ?_
        refine AS.move rfl rfl rfl rfl ?_
        refine AS.bin rfl rfl rfl rfl rfl (BinR.add (w64 (by omega) (by omega))) ?_
        refine AS.assign rfl rfl rfl rfl ?_
        refine AS.opsEnd ?_
        exact AS.nextI (l0_ih (i + 1, nx ++ [o]) ⟨hi, by dsimp only; rw [sortO_succ ho, ← hI.2, inner_end' hJ.2.1 hkl]⟩ (by dsimp only; omega)) [] (.cons rfl (.cons rfl (.cons rfl (.nil)))) rfl
      · rw [Bool.not_eq_false'] at hc3
        subst hc3
        refine AS.skip ?_
        refine AS.region rfl ?_
        refine AS.move rfl rfl rfl rfl ?_
        refine AS.assign rfl rfl rfl rfl ?_
        refine AS.opsEnd ?_
        refine AS.loose 3 rfl ?_
        refine AS.dropH [] (G _ _ _ _) rfl ?_
        refine AS.inBlock ?_
        refine AS.region rfl ?_
        refine AS.move rfl rfl rfl rfl ?_
        refine AS.bin rfl rfl rfl rfl rfl (BinR.add (w64 (by omega) (by omega))) ?_
        refine AS.assign rfl rfl rfl rfl ?_
        refine AS.opsEnd ?_
        exact AS.nextI (l0_ih (i + 1, nx) ⟨hi, by dsimp only; rw [sortO_succ ho, ← hI.2, inner_end hJ.2.1 hkl]⟩ (by dsimp only; omega)) [] (.cons rfl (.cons rfl (.cons rfl (.nil)))) rfl
  · have hfin : out = sortO l := by rw [hI.2, List.take_of_length_le (by simp only [decide_eq_false_iff_not] at hc0; omega)]
    refine AS.exit rfl ?_
    refine AS.seq ?_
    refine AS.region rfl ?_
    refine AS.move rfl rfl rfl rfl ?_
    refine AS.assign rfl rfl rfl rfl ?_
    refine AS.opsEnd ?_
    refine AS.retW Try.func103 rfl (.tmp rfl (.nil)) ?_
    refine RWk.drop [] rfl ⟨?_, rfl⟩
    rw [← hfin]; rfl
end Go.Proofs.Ytncecheccihjoaa
/- T7 -/
namespace Go.Proofs.Ytncecheccihjoaa.TT7
open Go Go.Proofs.Fw Go.Shelf
theorem en126 : Enters Go.Proofs.Try.prog 126 := enters_of Go.Proofs.Try.func126 (by kernel_rfl) rfl
theorem en20 : Enters Go.Proofs.Try.prog 20 := enters_of Go.Proofs.Try.func20 (by kernel_rfl) rfl
theorem en21 : Enters Go.Proofs.Try.prog 21 := enters_of Go.Proofs.Try.func21 (by kernel_rfl) rfl
theorem en52 : Enters Go.Proofs.Try.prog 52 := enters_of Go.Proofs.Try.func52 (by kernel_rfl) rfl
theorem en66 : Enters Go.Proofs.Try.prog 66 := enters_of Go.Proofs.Try.func66 (by kernel_rfl) rfl
theorem fl38_0 : fldI Go.Proofs.Try.prog 38 0 = some 0 := by kernel_rfl
theorem fl38_5 : fldI Go.Proofs.Try.prog 38 5 = some 7 := by kernel_rfl
theorem fl50_0 : fldI Go.Proofs.Try.prog 50 0 = some 0 := by kernel_rfl
theorem fl50_1 : fldI Go.Proofs.Try.prog 50 1 = some 1 := by kernel_rfl
theorem fl50_2 : fldI Go.Proofs.Try.prog 50 2 = some 9 := by kernel_rfl
theorem fl50_3 : fldI Go.Proofs.Try.prog 50 3 = some 10 := by kernel_rfl
theorem mixed : Go.Proofs.Try.prog.follows .mixedOrders = true := by kernel_rfl
theorem sl28 : sliI Go.Proofs.Try.prog 28 = some (50, 11, 144) := by kernel_rfl
theorem sl36 : sliI Go.Proofs.Try.prog 36 = some (116, 2, 24) := by kernel_rfl
theorem sl48 : sliI Go.Proofs.Try.prog 48 = some (38, 8, 104) := by kernel_rfl
theorem ty2 : tyI Go.Proofs.Try.prog 2 = some (1, false) := by kernel_rfl
theorem ty35 : tyI Go.Proofs.Try.prog 35 = some (3, true) := by kernel_rfl
theorem ty36 : tyI Go.Proofs.Try.prog 36 = some (1, false) := by kernel_rfl
theorem ty38 : tyI Go.Proofs.Try.prog 38 = some (8, true) := by kernel_rfl
theorem ty47 : tyI Go.Proofs.Try.prog 47 = some (1, false) := by kernel_rfl
theorem ty48 : tyI Go.Proofs.Try.prog 48 = some (1, false) := by kernel_rfl
theorem ty50 : tyI Go.Proofs.Try.prog 50 = some (11, true) := by kernel_rfl
theorem u28 : Go.Proofs.Try.prog.underlying 28 = some (.slice 50) := by kernel_rfl
theorem u36 : Go.Proofs.Try.prog.underlying 36 = some (.slice 116) := by kernel_rfl
theorem u48 : Go.Proofs.Try.prog.underlying 48 = some (.slice 38) := by kernel_rfl
theorem z116 : zI Go.Proofs.Try.prog 116 = some (.agg #[(.string ⟨#[]⟩), (.int .i64 0)]) := by kernel_rfl
theorem z38 : zI Go.Proofs.Try.prog 38 = some (.agg #[(.string ⟨#[]⟩), (.string ⟨#[]⟩), (.string ⟨#[]⟩), (.int .i64 0), (.string ⟨#[]⟩), (.bool false), (.bool false), (.slice none 0 0)]) := by kernel_rfl
theorem z50 : zI Go.Proofs.Try.prog 50 = some (.agg #[(.int .i64 0), (.string ⟨#[]⟩), (.string ⟨#[]⟩), (.string ⟨#[]⟩), (.int .i64 0), (.string ⟨#[]⟩), (.bool false), (.bool false), (.slice none 0 0), (.int .i64 0), (.slice none 0 0)]) := by kernel_rfl
end Go.Proofs.Ytncecheccihjoaa.TT7
namespace Go.Proofs.Ytncecheccihjoaa
open Go Go.Proofs.Fw Go.Proofs
set_option linter.unusedVariables false
set_option linter.unusedSimpArgs false
set_option maxRecDepth 20000
set_option maxHeartbeats 4000000
theorem own_spec (o : Object) (H : AH) (hl : o.charge.length ≤ 1000000) : ACalls Try.prog [] 66 [encObj o] H (fun x H' => x = encObj o ∧ H' = H) := by
  refine ACalls.enter (n := 15) Try.func66 rfl rfl (Nat.le_of_ble_eq_true rfl) ?_
  refine AS.seq ?_
  refine AS.region rfl ?_
  refine AS.box rfl rfl rfl rfl rfl ?_
  intro b1
  refine AS.allocZ rfl rfl rfl TT7.z38 rfl ?_
  intro b2
  refine AS.opsEnd ?_
  refine AS.seq ?_
  refine AS.region rfl ?_
  refine AS.fieldAddr rfl rfl rfl rfl TT7.fl38_5 ?_
  refine AS.load rfl rfl rfl rfl TT7.ty36 rfl rfl rfl ?_
  refine AS.len rfl rfl rfl rfl (by first | exact lenT_sl TT7.u36 | exact lenT_ms TT7.u36 | (rw [TT7.u36]; rfl)) rfl rfl ?_
  refine AS.makeSliceZ (m := (o.charge.map encRes).length) rfl rfl rfl rfl rfl rfl rfl TT7.sl36 TT7.z116 rfl (by rw [List.length_map]; omega) ?_
  intro b7
  refine AS.assign rfl rfl rfl rfl ?_
  refine AS.opsEnd ?_
  refine AS.seq ?_
  refine AS.region rfl ?_
  refine AS.move rfl rfl rfl rfl ?_
  refine AS.fieldAddr rfl rfl rfl rfl TT7.fl38_5 ?_
  refine AS.load rfl rfl rfl rfl TT7.ty36 rfl rfl rfl ?_
  refine AS.copy rfl rfl rfl rfl rfl TT7.sl36 (map_sz encRes_sz _) (map_one encRes_flat _) (by rw [zrow_length, Nat.zero_add]; exact Nat.le_refl _) (Nat.min_self _).symm ?_
  refine AS.opsEnd ?_
  refine AS.seq ?_
  refine AS.region rfl ?_
  refine AS.move rfl rfl rfl rfl ?_
  refine AS.fieldAddr rfl rfl rfl rfl TT7.fl38_5 ?_
  refine AS.store rfl rfl rfl rfl rfl rfl TT7.ty36 rfl rfl ?_
  refine AS.opsEnd ?_
  refine AS.seq ?_
  refine AS.region rfl ?_
  refine AS.load rfl rfl rfl rfl TT7.ty38 rfl rfl rfl ?_
  refine AS.store rfl rfl rfl rfl rfl rfl TT7.ty38 rfl rfl ?_
  refine AS.opsEnd ?_
  refine AS.retW Try.func66 rfl (.cell rfl TT7.ty38 rfl rfl rfl (.nil)) ?_
  refine ⟨encObj o, H, ?_, rfl, rfl⟩
  refine Wk.trans (Wk.freeze (b := b7) (Froze.aggL (ys := [.str o.key.kind, .str o.key.space, .str o.key.name, .int .i64 o.ver, .str o.cls, .bool o.term, .bool o.best, .slice (o.charge.map encRes) .any]) (.cons (.refl _) (.cons (.refl _) (.cons (.refl _) (.cons (.refl _) (.cons (.refl _) (.cons (.refl _) (.cons (.refl _) (.cons (.slice 0 _ _ 2 _ _ rfl (Nat.le_refl _) (map_allSz encRes_sz (fun _ => rfl) _) (copied (map_sz encRes_sz _) rfl rfl) (.inl rfl)) .nil)))))))))) (Wk.trans (Wk.drop _) (Wk.drop _))
theorem evown_spec (e : Evt) (H : AH) (hl : e.objs.length ≤ 1000000) (hc : e.obj.charge.length ≤ 1000000) (hch : ∀ o ∈ e.objs, o.charge.length ≤ 1000000) : ACalls Try.prog [] 68 [encEv e] H (fun x H' => x = encEv e ∧ H' = H) := by
  refine ACalls.enter (n := 26) Try.func68 rfl rfl (Nat.le_of_ble_eq_true rfl) ?_
  refine AS.seq ?_
  refine AS.region rfl ?_
  refine AS.box rfl rfl rfl rfl rfl ?_
  intro b1
  refine AS.allocZ rfl rfl rfl TT7.z50 rfl ?_
  intro b2
  refine AS.opsEnd ?_
  refine AS.seq ?_
  refine AS.region rfl ?_
  refine AS.fieldAddr rfl rfl rfl rfl TT7.fl50_1 ?_
  refine AS.load (y := encObj e.obj) rfl rfl rfl rfl TT7.ty38 rfl rfl rfl ?_
  refine AS.callP rfl rfl rfl rfl TT7.en66 (own_spec e.obj _ hc) ?_
  refine AS.fieldAddr rfl rfl rfl rfl TT7.fl50_1 ?_
  refine AS.store rfl rfl rfl rfl rfl rfl TT7.ty38 rfl rfl ?_
  refine AS.opsEnd ?_
  refine AS.seq ?_
  refine AS.region rfl ?_
  refine AS.assign rfl rfl rfl rfl ?_
  refine AS.opsEnd ?_
  refine AS.seq ?_
  refine AS.seq ?_
  refine AS.region rfl ?_
  refine AS.fieldAddr rfl rfl rfl rfl TT7.fl50_3 ?_
  refine AS.load rfl rfl rfl rfl TT7.ty48 rfl rfl rfl ?_
  refine AS.len rfl rfl rfl rfl (by first | exact lenT_sl TT7.u48 | exact lenT_ms TT7.u48 | (rw [TT7.u48]; rfl)) rfl (lenMap _ _) ?_
  refine AS.move rfl rfl rfl rfl ?_
  refine AS.opsEnd ?_
  refine AS.block ?_
  refine AS.loopI (α := Nat × List Object × Tok) (fun s => s.1 ≤ e.objs.length ∧ s.2.1 = e.objs.take s.1 ∧ s.2.2.grows = true) (fun s => e.objs.length - s.1) (fun s => [(3, .slice (s.2.1.map encObj) s.2.2), (13, .int .i64 s.1)]) [(1, _), (2, _), (11, _), (12, _)] (fun s => G s.2.2 (s.2.1.map encObj).length 8 38 ++ _) (0, [], .full) ⟨Nat.zero_le _, by simp, rfl⟩ (.cons rfl (.cons rfl (.cons rfl (.cons rfl (.cons rfl (.cons rfl (.nil))))))) rfl (fun s hI l0_ih => ?_)
  obtain ⟨i, out, tk⟩ := s
  dsimp only at hI l0_ih ⊢
  refine AS.seq ?_
  refine AS.region rfl ?_
  refine AS.bin rfl rfl rfl rfl rfl (BinR.lss rfl) ?_
  refine AS.opsEnd ?_
  refine AS.seq ?_
  refine AS.cond rfl (fun hc0 => ?_) (fun hc0 => ?_)
  · have hi : i < e.objs.length := by simp only [decide_eq_true_eq] at hc0; omega
    obtain ⟨o, ho⟩ := getAt hi
    have hol : out.length = i := by rw [hI.2.1, List.length_take]; omega
    refine AS.skip ?_
    refine AS.seq ?_
    refine AS.block ?_
    refine AS.seq ?_
    refine AS.region rfl ?_
    refine AS.indexAddr rfl rfl rfl rfl rfl TT7.sl48 (Int.natCast_nonneg _) (map_get _ _ ho) rfl ?_
    refine AS.iload (y := encObj o) rfl rfl rfl rfl TT7.ty38 rfl rfl rfl ?_
    refine AS.allocZ rfl rfl rfl TT7.z38 rfl ?_
    intro b5
    refine AS.store rfl rfl rfl rfl rfl rfl TT7.ty38 rfl rfl ?_
    refine AS.opsEnd ?_
    refine AS.region rfl ?_
    refine AS.move rfl rfl rfl rfl ?_
    refine AS.load (y := encObj o) rfl rfl rfl rfl TT7.ty38 rfl rfl rfl ?_
    refine AS.callP rfl rfl rfl rfl TT7.en66 (own_spec o _ (hch o (List.mem_of_getElem? ho))) ?_
    refine AS.buildSlice1 rfl rfl rfl TT7.sl48 rfl rfl rfl ?_
    refine AS.append1 (a := o) rfl rfl rfl rfl rfl TT7.sl48 hI.2.2 rfl encObj_sz encObj_flat (by omega) ?_
    intro tk1 h1
    refine AS.assign rfl rfl rfl rfl ?_
    refine AS.opsEnd ?_
    refine AS.dropH (G _ _ _ _) [_] rfl ?_
    refine AS.inBlock ?_
    refine AS.region rfl ?_
    refine AS.bin rfl rfl rfl rfl rfl (BinR.add (w64 (by omega) (by omega))) ?_
    refine AS.move rfl rfl rfl rfl ?_
    refine AS.opsEnd ?_
    exact AS.nextI (l0_ih (i + 1, out ++ [o], tk1) ⟨hi, by dsimp only; rw [hI.2.1, List.take_add_one, ho]; rfl, h1⟩ (by dsimp only; omega)) [] (.cons rfl (.cons rfl (.cons rfl (.cons rfl (.cons rfl (.cons rfl (.nil))))))) rfl
  · have hfin : out = e.objs := by rw [hI.2.1, List.take_of_length_le (by simp only [decide_eq_false_iff_not] at hc0; omega)]
    subst hfin
    refine AS.loose 3 rfl ?_
    refine AS.dropF (G _ _ _ _) rfl ?_
    refine AS.exit rfl ?_
    refine AS.seq ?_
    refine AS.region rfl ?_
    refine AS.move rfl rfl rfl rfl ?_
    refine AS.fieldAddr rfl rfl rfl rfl TT7.fl50_3 ?_
    refine AS.store rfl rfl rfl rfl rfl rfl TT7.ty48 rfl rfl ?_
    refine AS.opsEnd ?_
    refine AS.seq ?_
    refine AS.region rfl ?_
    refine AS.load rfl rfl rfl rfl TT7.ty50 rfl rfl rfl ?_
    refine AS.store rfl rfl rfl rfl rfl rfl TT7.ty50 rfl rfl ?_
    refine AS.opsEnd ?_
    refine AS.retW Try.func68 rfl (.cell rfl TT7.ty50 rfl rfl rfl (.nil)) ?_
    exact RWk.drop [_, _] rfl ⟨rfl, rfl⟩
end Go.Proofs.Ytncecheccihjoaa
/- Order of keys; the stable sort's steps, place by place: in plain Lean. -/
namespace Go.Proofs.Fw
open Go
set_option linter.unusedVariables false

/-! ### The order -/
theorem bl_irr : ∀ x : List UInt8, Op.bytesLess x x = false
  | [] => rfl
  | a :: x => by simp [Op.bytesLess, bl_irr x]
theorem bl_asymm : ∀ {x y : List UInt8}, Op.bytesLess x y = true → Op.bytesLess y x = false
  | x, [], h => by cases x <;> simp [Op.bytesLess] at h
  | [], b :: y, _ => by simp [Op.bytesLess]
  | a :: x, b :: y, h => by
    simp only [Op.bytesLess, Bool.or_eq_true, decide_eq_true_eq, Bool.and_eq_true, beq_iff_eq] at h
    simp only [Op.bytesLess, Bool.or_eq_false_iff, decide_eq_false_iff_not, Bool.and_eq_false_iff, beq_eq_false_iff_ne]
    simp only [UInt8.lt_iff_toNat_lt] at *
    rcases h with h | ⟨h1, h2⟩
    · exact ⟨by omega, .inl (fun e => by rw [e] at h; omega)⟩
    · subst h1; exact ⟨by omega, .inr (bl_asymm h2)⟩
theorem bl_le_trans : ∀ {x y z : List UInt8}, Op.bytesLess y x = false → Op.bytesLess z y = false → Op.bytesLess z x = false
  | [], _, z, _, _ => by cases z <;> simp [Op.bytesLess]
  | a :: x, [], _, h, _ => by simp [Op.bytesLess] at h
  | a :: x, b :: y, [], _, h => by simp [Op.bytesLess] at h
  | a :: x, b :: y, c :: z, h1, h2 => by
    simp only [Op.bytesLess, Bool.or_eq_false_iff, decide_eq_false_iff_not, Bool.and_eq_false_iff, beq_eq_false_iff_ne] at *
    simp only [UInt8.lt_iff_toNat_lt] at *
    refine ⟨by omega, ?_⟩
    by_cases e : c = a
    · right
      subst e
      have hb : b = c := UInt8.toNat_inj.1 (by omega)
      subst hb
      rcases h1.2 with h | h
      · exact absurd rfl h
      · rcases h2.2 with h' | h'
        · exact absurd rfl h'
        · exact bl_le_trans h h'
    · exact .inl e
theorem bl_anti : ∀ {x y : List UInt8}, Op.bytesLess y x = false → Op.bytesLess x y = false → x = y
  | [], [], _, _ => rfl
  | [], b :: y, _, h => by simp [Op.bytesLess] at h
  | a :: x, [], h, _ => by simp [Op.bytesLess] at h
  | a :: x, b :: y, h1, h2 => by
    simp only [Op.bytesLess, Bool.or_eq_false_iff, decide_eq_false_iff_not, Bool.and_eq_false_iff, beq_eq_false_iff_ne] at *
    simp only [UInt8.lt_iff_toNat_lt] at *
    have hb : a = b := UInt8.toNat_inj.1 (by omega)
    subst hb
    rcases h1.2 with h | h
    · exact absurd rfl h
    · rcases h2.2 with h' | h'
      · exact absurd rfl h'
      · rw [bl_anti h h']

def leO (a b : Object) : Prop := keyLess b.key a.key = false
theorem leO_refl (a : Object) : leO a a := bl_irr _
theorem leO_trans {a b c : Object} (h : leO a b) (h' : leO b c) : leO a c := bl_le_trans h h'
theorem leO_of_lt {a b : Object} (h : keyLess a.key b.key = true) : leO a b := bl_asymm h

def cmpO (a b : Object) : Int := if keyLess a.key b.key then -1 else if keyLess b.key a.key then 1 else 0
theorem cmp_lt {a b : Object} : decide (cmpO a b < 0) = keyLess a.key b.key := by
  unfold cmpO; split
  · rename_i h; rw [h]; rfl
  · rename_i h; split <;> simp_all
/-! ### Places -/
def SortedR (l : List Object) (a b : Nat) : Prop := ∀ i j x y, a ≤ i → i < j → j < b → l[i]? = some x → l[j]? = some y → leO x y
structure Within (l l' : List Object) (a b : Nat) : Prop where
  len : l'.length = l.length
  perm : l'.Perm l
  out : ∀ k, k < a ∨ b ≤ k → l'[k]? = l[k]?
  ins : ∀ k, a ≤ k → k < b → ∃ j, a ≤ j ∧ j < b ∧ l'[k]? = l[j]?
theorem Within.refl (l : List Object) (a b : Nat) : Within l l a b := ⟨rfl, .refl _, fun _ _ => rfl, fun k h1 h2 => ⟨k, h1, h2, rfl⟩⟩
theorem Within.trans {l l' l'' : List Object} {a b : Nat} (h : Within l l' a b) (h' : Within l' l'' a b) : Within l l'' a b where
  len := h'.len.trans h.len
  perm := h'.perm.trans h.perm
  out k hk := (h'.out k hk).trans (h.out k hk)
  ins k h1 h2 := by
    obtain ⟨j, j1, j2, e⟩ := h'.ins k h1 h2
    obtain ⟨i, i1, i2, e'⟩ := h.ins j j1 j2
    exact ⟨i, i1, i2, e.trans e'⟩
theorem Within.mono {l l' : List Object} {a b c d : Nat} (h : Within l l' a b) (h1 : c ≤ a) (h2 : b ≤ d) : Within l l' c d where
  len := h.len
  perm := h.perm
  out k hk := h.out k (by omega)
  ins k k1 k2 := by
    by_cases hk : a ≤ k ∧ k < b
    · obtain ⟨j, j1, j2, e⟩ := h.ins k hk.1 hk.2
      exact ⟨j, by omega, by omega, e⟩
    · exact ⟨k, k1, k2, h.out k (by omega)⟩
theorem SortedR.out {l l' : List Object} {a b c d : Nat} (h : Within l l' a b) (hs : SortedR l c d) (hd : d ≤ a ∨ b ≤ c) : SortedR l' c d := fun i j x y h1 h2 h3 h4 h5 => by
  rw [h.out i (by omega)] at h4
  rw [h.out j (by omega)] at h5
  exact hs i j x y h1 h2 h3 h4 h5
theorem SortedR.sub {l : List Object} {a b c d : Nat} (h : SortedR l a b) (h1 : a ≤ c) (h2 : d ≤ b) : SortedR l c d := fun i j x y k1 k2 k3 => h i j x y (by omega) k2 (by omega)

def sw (l : List Object) (p q : Nat) (x y : Object) : List Object := (l.set p y).set q x
theorem sw_get {l : List Object} {p q : Nat} {x y : Object} (hp : l[p]? = some x) (hq : l[q]? = some y) (k : Nat) : (sw l p q x y)[k]? = l[if k = q then p else if k = p then q else k]? := by
  have h1 : p < l.length := (List.getElem?_eq_some_iff.1 hp).1
  have h2 : q < l.length := (List.getElem?_eq_some_iff.1 hq).1
  simp only [sw, List.getElem?_set, List.length_set]
  by_cases e1 : q = k
  · subst e1; rw [if_pos rfl, if_pos h2, if_pos rfl, hp]
  · have e1' : ¬ k = q := fun e => e1 e.symm
    rw [if_neg e1, if_neg e1']
    by_cases e2 : p = k
    · subst e2; rw [if_pos rfl, if_pos h1, if_pos rfl, hq]
    · have e2' : ¬ k = p := fun e => e2 e.symm
      rw [if_neg e2, if_neg e2']
theorem sw_perm {l : List Object} {p q : Nat} {x y : Object} (hp : l[p]? = some x) (hq : l[q]? = some y) : (sw l p q x y).Perm l := by
  have h1 : p < l.length := (List.getElem?_eq_some_iff.1 hp).1
  have h2 : q < l.length := (List.getElem?_eq_some_iff.1 hq).1
  rw [List.getElem?_eq_getElem h1] at hp
  rw [List.getElem?_eq_getElem h2] at hq
  cases hp; cases hq
  exact List.set_set_perm h1 h2
theorem sw_len (l : List Object) (p q : Nat) (x y : Object) : (sw l p q x y).length = l.length := by simp [sw]
theorem sw_within {l : List Object} {p q a b : Nat} {x y : Object} (hp : l[p]? = some x) (hq : l[q]? = some y) (h1 : a ≤ p) (h2 : p < b) (h3 : a ≤ q) (h4 : q < b) : Within l (sw l p q x y) a b where
  len := sw_len ..
  perm := sw_perm hp hq
  out k hk := by rw [sw_get hp hq, if_neg (by omega), if_neg (by omega)]
  ins k k1 k2 := by
    rw [sw_get hp hq]
    refine ⟨_, ?_, ?_, rfl⟩ <;> (repeat' split) <;> omega

/-! ### Insertion -/
def InsInv (l : List Object) (a i j : Nat) : Prop := ∀ p q x y, a ≤ p → p < q → q ≤ i → q ≠ j → l[p]? = some x → l[q]? = some y → leO x y
theorem ins_start {l : List Object} {a i : Nat} (h : SortedR l a i) : InsInv l a i i := fun p q x y h1 h2 h3 h4 => h p q x y h1 h2 (by omega)
theorem ins_step {l : List Object} {a i j : Nat} {x y : Object} (h : InsInv l a i j) (ha : a < j) (hj : j ≤ i) (hx : l[j]? = some x) (hy : l[j - 1]? = some y) (hlt : keyLess x.key y.key = true) : InsInv (sw l j (j - 1) x y) a i (j - 1) := by
  intro p q u v h1 h2 h3 h4 hp hq
  rw [sw_get hx hy] at hp hq
  rw [if_neg h4] at hq
  by_cases e1 : q = j
  · rw [if_pos e1, hy] at hq
    cases hq
    by_cases e2 : p = j - 1
    · rw [if_pos e2, hx] at hp; cases hp; exact leO_of_lt hlt
    · rw [if_neg e2, if_neg (by omega)] at hp
      exact h p (j - 1) _ _ h1 (by omega) (by omega) (by omega) hp hy
  · rw [if_neg e1] at hq
    by_cases e2 : p = j - 1
    · rw [if_pos e2, hx] at hp; cases hp
      exact h j q _ _ (by omega) (by omega) h3 e1 hx hq
    · rw [if_neg e2] at hp
      by_cases e3 : p = j
      · rw [if_pos e3, hy] at hp; cases hp
        exact h (j - 1) q _ _ (by omega) (by omega) h3 e1 hy hq
      · rw [if_neg e3] at hp
        exact h p q _ _ h1 h2 h3 e1 hp hq
theorem ins_end {l : List Object} {a i j : Nat} (h : InsInv l a i j) (hj : j ≤ i) (he : j ≤ a ∨ ∃ x y, l[j]? = some x ∧ l[j - 1]? = some y ∧ keyLess x.key y.key = false) : SortedR l a (i + 1) := by
  intro p q u v h1 h2 h3 hp hq
  by_cases e : q = j
  · subst e
    rcases he with he | ⟨x, y, hx, hy, hle⟩
    · omega
    · rw [hx] at hq; cases hq
      by_cases e2 : p = q - 1
      · subst e2; rw [hy] at hp; cases hp; exact hle
      · exact leO_trans (h p (q - 1) _ _ h1 (by omega) (by omega) (by omega) hp hy) hle
  · exact h p q _ _ h1 h2 (by omega) e hp hq

/-! ### Exchanging ranges; rotating -/
def swapAt (a b n k : Nat) : Nat := if a ≤ k ∧ k < a + n then k - a + b else if b ≤ k ∧ k < b + n then k - b + a else k
theorem swapAt_step {l c : List Object} {a b i : Nat} {x y : Object} (h : ∀ k, c[k]? = l[swapAt a b i k]?) (hab : a + i < b) (hx : c[a + i]? = some x) (hy : c[b + i]? = some y) :
    ∀ k, (sw c (a + i) (b + i) x y)[k]? = l[swapAt a b (i + 1) k]? := fun k => by
  rw [sw_get hx hy, h]
  congr 1
  simp only [swapAt]
  by_cases e1 : k = b + i
  · subst e1; rw [if_pos rfl, if_neg (by omega), if_neg (by omega), if_neg (by omega), if_pos (by omega)]; omega
  · rw [if_neg e1]
    by_cases e2 : k = a + i
    · subst e2; rw [if_pos rfl, if_neg (by omega), if_neg (by omega), if_pos (by omega)]; omega
    · rw [if_neg e2]
      (repeat' split) <;> omega
def rotAt (a m b k : Nat) : Nat := if a ≤ k ∧ k < a + (b - m) then k + (m - a) else if a + (b - m) ≤ k ∧ k < b then k - (b - m) else k
structure RotInv (l c : List Object) (a m b i j : Nat) : Prop where
  out : ∀ k, k < m - i ∨ m + j ≤ k → c[k]? = l[rotAt a m b k]?
  lo : ∀ k, m - i ≤ k → k < m - i + j → c[k + i]? = l[rotAt a m b k]?
  hi : ∀ k, m - i + j ≤ k → k < m + j → c[k - j]? = l[rotAt a m b k]?
theorem rot_start (l : List Object) {a m b : Nat} (h1 : a < m) (h2 : m < b) : RotInv l l a m b (m - a) (b - m) where
  out k hk := by congr 1; simp only [rotAt]; rw [if_neg (by omega), if_neg (by omega)]
  lo k k1 k2 := by congr 1; simp only [rotAt]; rw [if_pos (by omega)]
  hi k k1 k2 := by congr 1; simp only [rotAt]; rw [if_neg (by omega), if_pos (by omega)]
theorem rot_big {l c c' : List Object} {a m b i j : Nat} (h : RotInv l c a m b i j) (hij : j < i) (hi : i ≤ m) (hc : ∀ k, c'[k]? = c[swapAt (m - i) m j k]?) : RotInv l c' a m b (i - j) j where
  out k hk := by
    rw [hc]
    by_cases h1 : k < m - i ∨ m + j ≤ k
    · rw [← h.out k h1]; congr 1; simp only [swapAt]; rw [if_neg (by omega), if_neg (by omega)]
    · rw [← h.lo k (by omega) (by omega)]; congr 1; simp only [swapAt]; rw [if_pos (by omega)]; omega
  lo k k1 k2 := by
    rw [hc]
    by_cases h1 : k < m - i + j
    · omega
    · rw [← h.hi k (by omega) (by omega)]
      congr 1; simp only [swapAt]
      (repeat' split) <;> omega
  hi k k1 k2 := by
    rw [hc, ← h.hi k (by omega) (by omega)]
    congr 1; simp only [swapAt]
    rw [if_neg (by omega), if_neg (by omega)]
theorem rot_small {l c c' : List Object} {a m b i j : Nat} (h : RotInv l c a m b i j) (hij : i < j) (hi : i ≤ m) (hc : ∀ k, c'[k]? = c[swapAt (m - i) (m + j - i) i k]?) : RotInv l c' a m b i (j - i) where
  out k hk := by
    rw [hc]
    by_cases h1 : k < m - i ∨ m + j ≤ k
    · rw [← h.out k h1]; congr 1; simp only [swapAt]; rw [if_neg (by omega), if_neg (by omega)]
    · rw [← h.hi k (by omega) (by omega)]; congr 1; simp only [swapAt]; rw [if_neg (by omega), if_pos (by omega)]; omega
  lo k k1 k2 := by
    rw [hc, ← h.lo k (by omega) (by omega)]
    congr 1; simp only [swapAt]
    rw [if_neg (by omega), if_neg (by omega)]
  hi k k1 k2 := by
    rw [hc]
    by_cases h1 : k < m - i + j
    · rw [← h.lo k (by omega) (by omega)]
      congr 1; simp only [swapAt]
      (repeat' split) <;> omega
    · omega
theorem rot_end {l c c' : List Object} {a m b i : Nat} (h : RotInv l c a m b i i) (hi : i ≤ m) (hc : ∀ k, c'[k]? = c[swapAt (m - i) m i k]?) : ∀ k, c'[k]? = l[rotAt a m b k]? := fun k => by
  rw [hc]
  by_cases h1 : k < m - i ∨ m + i ≤ k
  · rw [← h.out k h1]; congr 1; simp only [swapAt]; rw [if_neg (by omega), if_neg (by omega)]
  · by_cases h2 : k < m
    · rw [← h.lo k (by omega) (by omega)]; congr 1; simp only [swapAt]; rw [if_pos (by omega)]; omega
    · rw [← h.hi k (by omega) (by omega)]; congr 1; simp only [swapAt]; rw [if_neg (by omega), if_pos (by omega)]; omega
/-! ### Merging -/
theorem rotAt_in {a m b k : Nat} (h1 : a < m) (h2 : m < b) (k1 : a ≤ k) (k2 : k < b) : a ≤ rotAt a m b k ∧ rotAt a m b k < b := by
  simp only [rotAt]; (repeat' split) <;> omega
theorem rot_within {l l' : List Object} {a m b : Nat} (h1 : a < m) (h2 : m < b) (hl : l'.length = l.length) (hp : l'.Perm l) (h : ∀ k, l'[k]? = l[rotAt a m b k]?) : Within l l' a b where
  len := hl
  perm := hp
  out k hk := by rw [h]; congr 1; simp only [rotAt]; rw [if_neg (by omega), if_neg (by omega)]
  ins k k1 k2 := ⟨_, (rotAt_in h1 h2 k1 k2).1, (rotAt_in h1 h2 k1 k2).2, h k⟩
/-- What the binary search has found out. -/
structure Bs (l : List Object) (p lo hi s r : Nat) : Prop where
  le : lo ≤ s ∧ s ≤ r ∧ r ≤ hi
  left : s = lo ∨ ∃ x y, l[p - (s - 1)]? = some x ∧ l[s - 1]? = some y ∧ keyLess x.key y.key = false
  right : r = hi ∨ ∃ x y, l[p - r]? = some x ∧ l[r]? = some y ∧ keyLess x.key y.key = true
/-- Both halves, once turned, are sorted, and all of the one comes ahead of all of the other. -/
structure Halves (l : List Object) (a s mid e b : Nat) : Prop where
  l1 : SortedR l a s
  r1 : SortedR l s mid
  l2 : SortedR l mid e
  r2 : SortedR l e b
  across : ∀ i j x y, a ≤ i → i < mid → mid ≤ j → j < b → l[i]? = some x → l[j]? = some y → leO x y
theorem getSome {l : List Object} {i : Nat} (h : i < l.length) : ∃ x, l[i]? = some x := ⟨l[i], by simp [h]⟩
theorem leR {l : List Object} {a b i j : Nat} {x y : Object} (h : SortedR l a b) (h1 : a ≤ i) (h2 : i ≤ j) (h3 : j < b) (hx : l[i]? = some x) (hy : l[j]? = some y) : leO x y := by
  by_cases e : i = j
  · subst e; rw [hx] at hy; cases hy; exact leO_refl _
  · exact h i j x y h1 (by omega) h3 hx hy
theorem halves {l l' : List Object} {a m b s mid : Nat} (hb : b ≤ l.length) (h1 : a < m) (h2 : m < b) (hmid : mid = (a + b) / 2) (s1 : SortedR l a m) (s2 : SortedR l m b)
    {lo hi : Nat} (hlo : (mid < m ∧ lo = mid + m - b ∧ hi = mid) ∨ (m ≤ mid ∧ lo = a ∧ hi = m)) (hbs : Bs l (mid + m - 1) lo hi s s)
    (hl : (s < m ∧ m < mid + m - s ∧ ∀ k, l'[k]? = l[rotAt s m (mid + m - s) k]?) ∨ (¬ (s < m ∧ m < mid + m - s) ∧ l' = l)) : Halves l' a s mid (mid + m - s) b := by
  obtain ⟨⟨b1, b2, b3⟩, bl, br⟩ := hbs
  have hsm : s ≤ m ∧ s ≤ mid ∧ a ≤ s ∧ mid + m - s ≤ b := by omega
  -- where each place of the new list comes from
  have src : ∀ k, l'[k]? = l[rotAt s m (mid + m - s) k]? := by
    rcases hl with ⟨_, _, h⟩ | ⟨h, e⟩
    · exact h
    · subst e
      intro k
      congr 1
      simp only [rotAt]
      (repeat' split) <;> omega
  have cross1 : ∀ i j x y, a ≤ i → i < s → mid + m - s ≤ j → j < b → l[i]? = some x → l[j]? = some y → leO x y := by
    intro i j x y i1 i2 j1 j2 hx hy
    rcases bl with e | ⟨u, v, hu, hv, huv⟩
    · omega
    · have e1 : mid + m - 1 - (s - 1) = mid + m - s := by omega
      rw [e1] at hu
      exact leO_trans (leR s1 i1 (by omega : i ≤ s - 1) (by omega) hx hv) (leO_trans huv (leR s2 (by omega) j1 j2 hu hy))
  have cross2 : ∀ i j x y, m ≤ i → i < mid + m - s → s ≤ j → j < m → l[i]? = some x → l[j]? = some y → leO x y := by
    intro i j x y i1 i2 j1 j2 hx hy
    rcases br with e | ⟨u, v, hu, hv, huv⟩
    · omega
    · exact leO_trans (leR s2 i1 (by omega : i ≤ mid + m - 1 - s) (by omega) hx hu) (leO_trans (leO_of_lt huv) (leR s1 (by omega) j1 j2 hv hy))
  have r1 : ∀ k, k < s → rotAt s m (mid + m - s) k = k := fun k h => by simp only [rotAt]; rw [if_neg (by omega), if_neg (by omega)]
  have r2 : ∀ k, s ≤ k → k < mid → rotAt s m (mid + m - s) k = k + (m - s) := fun k h h' => by simp only [rotAt]; rw [if_pos (by omega)]
  have r3 : ∀ k, mid ≤ k → k < mid + m - s → rotAt s m (mid + m - s) k = k - (mid - s) := fun k h h' => by simp only [rotAt]; rw [if_neg (by omega), if_pos (by omega)]; omega
  have r4 : ∀ k, mid + m - s ≤ k → rotAt s m (mid + m - s) k = k := fun k h => by simp only [rotAt]; rw [if_neg (by omega), if_neg (by omega)]
  refine ⟨?_, ?_, ?_, ?_, ?_⟩
  · intro i j x y h1 h2 h3 hx hy
    rw [src, r1 i (by omega)] at hx; rw [src, r1 j (by omega)] at hy
    exact s1 i j x y h1 h2 (by omega) hx hy
  · intro i j x y h1 h2 h3 hx hy
    rw [src, r2 i (by omega) (by omega)] at hx; rw [src, r2 j (by omega) (by omega)] at hy
    exact s2 _ _ x y (by omega) (by omega) (by omega) hx hy
  · intro i j x y h1 h2 h3 hx hy
    rw [src, r3 i (by omega) (by omega)] at hx; rw [src, r3 j (by omega) (by omega)] at hy
    exact s1 _ _ x y (by omega) (by omega) (by omega) hx hy
  · intro i j x y h1 h2 h3 hx hy
    rw [src, r4 i (by omega)] at hx; rw [src, r4 j (by omega)] at hy
    exact s2 _ _ x y (by omega) (by omega) (by omega) hx hy
  · intro i j x y i1 i2 j1 j2 hx hy
    rw [src] at hx hy
    by_cases ei : i < s
    · rw [r1 i ei] at hx
      by_cases ej : j < mid + m - s
      · rw [r3 j j1 ej] at hy
        exact leR s1 i1 (by omega) (by omega) hx hy
      · rw [r4 j (by omega)] at hy
        exact cross1 _ _ _ _ i1 ei (by omega) j2 hx hy
    · rw [r2 i (by omega) i2] at hx
      by_cases ej : j < mid + m - s
      · rw [r3 j j1 ej] at hy
        exact cross2 _ _ _ _ (by omega) (by omega) (by omega) (by omega) hx hy
      · rw [r4 j (by omega)] at hy
        exact leR s2 (by omega) (by omega) j2 hx hy
/-- Both halves sorted within themselves: the whole is. -/
theorem halves_end {l l1 l2 : List Object} {a s mid e b : Nat} (h : Halves l a s mid e b) (hm : a ≤ mid ∧ mid ≤ b) (w1 : Within l l1 a mid) (s1 : SortedR l1 a mid) (w2 : Within l1 l2 mid b) (s2 : SortedR l2 mid b) : SortedR l2 a b := by
  intro i j x y i1 ij j2 hx hy
  by_cases hj : j < mid
  · rw [w2.out i (by omega)] at hx; rw [w2.out j (by omega)] at hy
    exact s1 i j x y i1 ij hj hx hy
  · by_cases hi : i < mid
    · rw [w2.out i (by omega)] at hx
      obtain ⟨j', j1', j2', ej⟩ := w2.ins j (by omega) j2
      obtain ⟨i', i1', i2', ei⟩ := w1.ins i i1 hi
      rw [ej, w1.out j' (by omega)] at hy
      rw [ei] at hx
      exact h.across i' j' x y i1' i2' j1' j2' hx hy
    · exact s2 i j x y (by omega) ij j2 hx hy

def upAt (a k p : Nat) : Nat := if p < a then p else if p < k then p + 1 else if p = k then a else p
theorem up_start (l : List Object) (a : Nat) : ∀ p, l[p]? = l[upAt a a p]? := fun p => by
  congr 1; simp only [upAt]; (repeat' split) <;> omega
theorem up_step {l c : List Object} {a k : Nat} {x y : Object} (h : ∀ p, c[p]? = l[upAt a k p]?) (hk : a ≤ k) (hx : c[k]? = some x) (hy : c[k + 1]? = some y) : ∀ p, (sw c k (k + 1) x y)[p]? = l[upAt a (k + 1) p]? := fun p => by
  rw [sw_get hx hy, h]
  congr 1
  simp only [upAt]
  by_cases e1 : p = k + 1
  · subst e1; rw [if_pos rfl, if_neg (by omega), if_neg (by omega), if_pos rfl, if_neg (by omega), if_neg (by omega), if_pos rfl]
  · rw [if_neg e1]
    by_cases e2 : p = k
    · subst e2; rw [if_pos rfl, if_neg (by omega), if_neg (by omega), if_neg (by omega), if_neg (by omega), if_pos (by omega)]
    · rw [if_neg e2]; (repeat' split) <;> omega
theorem up_within {l l' : List Object} {a i b : Nat} (h1 : a ≤ i) (h2 : i < b) (hl : l'.length = l.length) (hp : l'.Perm l) (h : ∀ p, l'[p]? = l[upAt a i p]?) : Within l l' a b where
  len := hl
  perm := hp
  out k hk := by rw [h]; congr 1; simp only [upAt]; (repeat' split) <;> omega
  ins k k1 k2 := by
    refine ⟨_, ?_, ?_, h k⟩ <;> (simp only [upAt]; (repeat' split) <;> omega)
def downAt (m k p : Nat) : Nat := if p < k then p else if p = k then m else if p ≤ m then p - 1 else p
theorem down_start (l : List Object) (m : Nat) : ∀ p, l[p]? = l[downAt m m p]? := fun p => by
  congr 1; simp only [downAt]; (repeat' split) <;> omega
theorem down_step {l c : List Object} {m k : Nat} {x y : Object} (h : ∀ p, c[p]? = l[downAt m k p]?) (hk : k ≤ m) (h0 : 0 < k) (hx : c[k]? = some x) (hy : c[k - 1]? = some y) : ∀ p, (sw c k (k - 1) x y)[p]? = l[downAt m (k - 1) p]? := fun p => by
  rw [sw_get hx hy, h]
  congr 1
  simp only [downAt]
  by_cases e1 : p = k - 1
  · subst e1; rw [if_pos rfl, if_neg (by omega), if_pos rfl, if_neg (by omega), if_pos rfl]
  · rw [if_neg e1]
    by_cases e2 : p = k
    · subst e2; rw [if_pos rfl, if_pos (by omega), if_neg (by omega), if_neg (by omega), if_pos (by omega)]
    · rw [if_neg e2]; (repeat' split) <;> omega
theorem down_within {l l' : List Object} {a i m b : Nat} (h1 : a ≤ i) (h3 : i ≤ m) (h2 : m < b) (hl : l'.length = l.length) (hp : l'.Perm l) (h : ∀ p, l'[p]? = l[downAt m i p]?) : Within l l' a b where
  len := hl
  perm := hp
  out k hk := by rw [h]; congr 1; simp only [downAt]; (repeat' split) <;> omega
  ins k k1 k2 := by
    refine ⟨_, ?_, ?_, h k⟩ <;> (simp only [downAt]; (repeat' split) <;> omega)
theorem bs_left {l : List Object} {p lo hi s r : Nat} {x y : Object} (h : Bs l p lo hi s r) (hs : s < r) (hx : l[p - (s + r) / 2]? = some x) (hy : l[(s + r) / 2]? = some y) (hl : keyLess x.key y.key = false) : Bs l p lo hi ((s + r) / 2 + 1) r :=
  ⟨by have := h.le; omega, .inr ⟨x, y, by rw [Nat.add_sub_cancel]; exact hx, by rw [Nat.add_sub_cancel]; exact hy, hl⟩, h.right⟩
theorem bs_right {l : List Object} {p lo hi s r : Nat} {x y : Object} (h : Bs l p lo hi s r) (hs : s < r) (hx : l[p - (s + r) / 2]? = some x) (hy : l[(s + r) / 2]? = some y) (hl : keyLess x.key y.key = true) : Bs l p lo hi s ((s + r) / 2) :=
  ⟨by have := h.le; omega, h.left, .inr ⟨x, y, hx, hy, hl⟩⟩
/-- One element is moved up to its place. -/
theorem up_end {l l' : List Object} {a m b i : Nat} (h1 : m = a + 1) (hi : m ≤ i ∧ i ≤ b) (s2 : SortedR l m b) (hb : b ≤ l.length)
    (hleft : i = m ∨ ∃ x y, l[i - 1]? = some x ∧ l[a]? = some y ∧ keyLess x.key y.key = true) (hright : i = b ∨ ∃ x y, l[i]? = some x ∧ l[a]? = some y ∧ keyLess x.key y.key = false)
    (hl : ∀ k, l'[k]? = l[upAt a (i - 1) k]?) : SortedR l' a b := by
  intro p q x y p1 pq q2 hx hy
  simp only [upAt] at hl
  rw [hl, if_neg (by omega)] at hx
  rw [hl, if_neg (by omega)] at hy
  by_cases e1 : q < i - 1
  · rw [if_pos e1] at hy
    rw [if_pos (by omega)] at hx
    exact s2 _ _ x y (by omega) (by omega) (by omega) hx hy
  · rw [if_neg e1] at hy
    by_cases e2 : q = i - 1
    · rw [if_pos e2] at hy
      rw [if_pos (by omega)] at hx
      rcases hleft with e | ⟨u, v, hu, hv, huv⟩
      · omega
      · rw [hv] at hy; cases hy
        exact leO_trans (leR s2 (by omega) (by omega : p + 1 ≤ i - 1) (by omega) hx hu) (leO_of_lt huv)
    · rw [if_neg e2] at hy
      by_cases e3 : p < i - 1
      · rw [if_pos e3] at hx
        exact s2 _ _ x y (by omega) (by omega) (by omega) hx hy
      · rw [if_neg e3] at hx
        by_cases e4 : p = i - 1
        · rw [if_pos e4] at hx
          rcases hright with e | ⟨u, v, hu, hv, huv⟩
          · omega
          · rw [hv] at hx; cases hx
            exact leO_trans huv (leR s2 (by omega) (by omega : i ≤ q) (by omega) hu hy)
        · rw [if_neg e4] at hx
          exact s2 _ _ x y (by omega) (by omega) (by omega) hx hy
/-- One element is moved down to its place. -/
theorem down_end {l l' : List Object} {a m b i : Nat} (h1 : b = m + 1) (hi : a ≤ i ∧ i ≤ m) (s1 : SortedR l a m) (hb : b ≤ l.length)
    (hleft : i = a ∨ ∃ x y, l[m]? = some x ∧ l[i - 1]? = some y ∧ keyLess x.key y.key = false) (hright : i = m ∨ ∃ x y, l[m]? = some x ∧ l[i]? = some y ∧ keyLess x.key y.key = true)
    (hl : ∀ k, l'[k]? = l[downAt m i k]?) : SortedR l' a b := by
  intro p q x y p1 pq q2 hx hy
  simp only [downAt] at hl
  rw [hl] at hx hy
  by_cases e1 : q < i
  · rw [if_pos e1] at hy; rw [if_pos (by omega)] at hx
    exact s1 _ _ x y (by omega) (by omega) (by omega) hx hy
  · rw [if_neg e1] at hy
    by_cases e2 : q = i
    · rw [if_pos e2] at hy; rw [if_pos (by omega)] at hx
      rcases hleft with e | ⟨u, v, hu, hv, huv⟩
      · omega
      · rw [hu] at hy; cases hy
        exact leO_trans (leR s1 (by omega) (by omega : p ≤ i - 1) (by omega) hx hv) huv
    · rw [if_neg e2, if_pos (by omega)] at hy
      by_cases e3 : p < i
      · rw [if_pos e3] at hx
        exact leR s1 (by omega) (by omega) (by omega) hx hy
      · rw [if_neg e3] at hx
        by_cases e4 : p = i
        · rw [if_pos e4] at hx
          rcases hright with e | ⟨u, v, hu, hv, huv⟩
          · omega
          · rw [hu] at hx; cases hx
            exact leO_trans (leO_of_lt huv) (leR s1 (by omega) (by omega : i ≤ q - 1) (by omega) hv hy)
        · rw [if_neg e4, if_pos (by omega)] at hx
          exact s1 _ _ x y (by omega) (by omega) (by omega) hx hy
end Go.Proofs.Fw
/- T8 -/
namespace Go.Proofs.Ytncecheccihjoaa.TT8
open Go Go.Proofs.Fw Go.Shelf
theorem en101 : Enters Go.Proofs.Try.prog 101 := enters_of Go.Proofs.Try.func101 (by kernel_rfl) rfl
theorem en102 : Enters Go.Proofs.Try.prog 102 := enters_of Go.Proofs.Try.func102 (by kernel_rfl) rfl
theorem en126 : Enters Go.Proofs.Try.prog 126 := enters_of Go.Proofs.Try.func126 (by kernel_rfl) rfl
theorem en20 : Enters Go.Proofs.Try.prog 20 := enters_of Go.Proofs.Try.func20 (by kernel_rfl) rfl
theorem en21 : Enters Go.Proofs.Try.prog 21 := enters_of Go.Proofs.Try.func21 (by kernel_rfl) rfl
theorem en52 : Enters Go.Proofs.Try.prog 52 := enters_of Go.Proofs.Try.func52 (by kernel_rfl) rfl
theorem en66 : Enters Go.Proofs.Try.prog 66 := enters_of Go.Proofs.Try.func66 (by kernel_rfl) rfl
theorem fl38_0 : fldI Go.Proofs.Try.prog 38 0 = some 0 := by kernel_rfl
theorem fl38_5 : fldI Go.Proofs.Try.prog 38 5 = some 7 := by kernel_rfl
theorem fl50_0 : fldI Go.Proofs.Try.prog 50 0 = some 0 := by kernel_rfl
theorem fl50_1 : fldI Go.Proofs.Try.prog 50 1 = some 1 := by kernel_rfl
theorem fl50_2 : fldI Go.Proofs.Try.prog 50 2 = some 9 := by kernel_rfl
theorem fl50_3 : fldI Go.Proofs.Try.prog 50 3 = some 10 := by kernel_rfl
theorem mixed : Go.Proofs.Try.prog.follows .mixedOrders = true := by kernel_rfl
theorem sl28 : sliI Go.Proofs.Try.prog 28 = some (50, 11, 144) := by kernel_rfl
theorem sl36 : sliI Go.Proofs.Try.prog 36 = some (116, 2, 24) := by kernel_rfl
theorem sl48 : sliI Go.Proofs.Try.prog 48 = some (38, 8, 104) := by kernel_rfl
theorem ty2 : tyI Go.Proofs.Try.prog 2 = some (1, false) := by kernel_rfl
theorem ty35 : tyI Go.Proofs.Try.prog 35 = some (3, true) := by kernel_rfl
theorem ty36 : tyI Go.Proofs.Try.prog 36 = some (1, false) := by kernel_rfl
theorem ty38 : tyI Go.Proofs.Try.prog 38 = some (8, true) := by kernel_rfl
theorem ty47 : tyI Go.Proofs.Try.prog 47 = some (1, false) := by kernel_rfl
theorem ty48 : tyI Go.Proofs.Try.prog 48 = some (1, false) := by kernel_rfl
theorem ty50 : tyI Go.Proofs.Try.prog 50 = some (11, true) := by kernel_rfl
theorem u28 : Go.Proofs.Try.prog.underlying 28 = some (.slice 50) := by kernel_rfl
theorem u36 : Go.Proofs.Try.prog.underlying 36 = some (.slice 116) := by kernel_rfl
theorem u48 : Go.Proofs.Try.prog.underlying 48 = some (.slice 38) := by kernel_rfl
theorem z116 : zI Go.Proofs.Try.prog 116 = some (.agg #[(.string ⟨#[]⟩), (.int .i64 0)]) := by kernel_rfl
theorem z38 : zI Go.Proofs.Try.prog 38 = some (.agg #[(.string ⟨#[]⟩), (.string ⟨#[]⟩), (.string ⟨#[]⟩), (.int .i64 0), (.string ⟨#[]⟩), (.bool false), (.bool false), (.slice none 0 0)]) := by kernel_rfl
theorem z50 : zI Go.Proofs.Try.prog 50 = some (.agg #[(.int .i64 0), (.string ⟨#[]⟩), (.string ⟨#[]⟩), (.string ⟨#[]⟩), (.int .i64 0), (.string ⟨#[]⟩), (.bool false), (.bool false), (.slice none 0 0), (.int .i64 0), (.slice none 0 0)]) := by kernel_rfl
end Go.Proofs.Ytncecheccihjoaa.TT8
namespace Go.Proofs.Ytncecheccihjoaa
open Go Go.Proofs.Fw Go.Proofs
set_option linter.unusedVariables false
set_option linter.unusedSimpArgs false
set_option maxRecDepth 20000
set_option maxHeartbeats 4000000
theorem cmp_spec (a b : Object) (H : AH) (ha : keyFits a.key) (hb : keyFits b.key) : ACalls Try.prog [] 101 [encObj a, encObj b] H (fun x H' => x = .int .i64 (cmpO a b) ∧ H' = H) := by
  refine ACalls.enter (n := 17) Try.func101 rfl rfl (Nat.le_of_ble_eq_true rfl) ?_
  refine AS.seq ?_
  refine AS.region rfl ?_
  refine AS.box rfl rfl rfl rfl rfl ?_
  intro b2
  refine AS.box rfl rfl rfl rfl rfl ?_
  intro b3
  refine AS.assign rfl rfl rfl rfl ?_
  refine AS.opsEnd ?_
  refine AS.seq ?_
  refine AS.block ?_
  refine AS.seq ?_
  refine AS.region rfl ?_
  refine AS.fieldAddr rfl rfl rfl rfl TT8.fl38_0 ?_
  refine AS.load (y := encKey a.key) rfl rfl rfl rfl TT8.ty35 rfl rfl rfl ?_
  refine AS.fieldAddr rfl rfl rfl rfl TT8.fl38_0 ?_
  refine AS.load (y := encKey b.key) rfl rfl rfl rfl TT8.ty35 rfl rfl rfl ?_
  refine AS.callP rfl rfl rfl rfl TT8.en102 (label_less a.key b.key _ ha hb) ?_
  refine AS.assign rfl rfl rfl rfl ?_
  refine AS.opsEnd ?_
  refine AS.cond rfl (fun hc0 => ?_) (fun hc0 => ?_)
  · refine AS.seq ?_
    refine AS.region rfl ?_
    refine AS.assign rfl rfl rfl rfl ?_
    refine AS.opsEnd ?_
    refine AS.retW Try.func101 rfl (.tmp rfl (.nil)) ?_
    refine RWk.drop [_, _] rfl ⟨?_, rfl⟩
    show AV.int _ _ = AV.int _ _
    (simp only [cmpO, hc0]) <;> rfl
  · refine AS.seq ?_
    refine AS.region rfl ?_
    refine AS.fieldAddr rfl rfl rfl rfl TT8.fl38_0 ?_
    refine AS.load (y := encKey b.key) rfl rfl rfl rfl TT8.ty35 rfl rfl rfl ?_
    refine AS.fieldAddr rfl rfl rfl rfl TT8.fl38_0 ?_
    refine AS.load (y := encKey a.key) rfl rfl rfl rfl TT8.ty35 rfl rfl rfl ?_
    refine AS.callP rfl rfl rfl rfl TT8.en102 (label_less b.key a.key _ hb ha) ?_
    refine AS.assign rfl rfl rfl rfl ?_
    refine AS.opsEnd ?_
    refine AS.cond rfl (fun hc1 => ?_) (fun hc1 => ?_)
    · refine AS.seq ?_
      refine AS.region rfl ?_
      refine AS.assign rfl rfl rfl rfl ?_
      refine AS.opsEnd ?_
      refine AS.retW Try.func101 rfl (.tmp rfl (.nil)) ?_
      refine RWk.drop [_, _] rfl ⟨?_, rfl⟩
      show AV.int _ _ = AV.int _ _
      (simp only [cmpO, hc0, hc1]) <;> rfl
    · refine AS.skip ?_
      refine AS.inBlock ?_
      refine AS.seq ?_
      refine AS.region rfl ?_
      refine AS.assign rfl rfl rfl rfl ?_
      refine AS.opsEnd ?_
      refine AS.retW Try.func101 rfl (.tmp rfl (.nil)) ?_
      refine RWk.drop [_, _] rfl ⟨?_, rfl⟩
      show AV.int _ _ = AV.int _ _
      (simp only [cmpO, hc0, hc1]) <;> rfl
theorem insertion_spec (l : List Object) (rs : List AV) (b n cap lo hi : Nat) (H : AH) (hk : ∀ o ∈ l, keyFits o.key) (hn : n = l.length) (hh : hi ≤ n) (hb : n ≤ 1000000) (hlo : lo ≤ hi) : ACalls Try.prog [] 146 [.mslice b 0 n cap, .int .i64 lo, .int .i64 hi, .func (.func 101) [] []] ((b, .row (rowOf encObj l rs) 38) :: H) (fun _ H' => ∃ l', Within l l' lo hi ∧ SortedR l' lo hi ∧ H' = (b, .row (rowOf encObj l' rs) 38) :: H) := by
  refine ACalls.enter (n := 53) Try.func146 rfl rfl (Nat.le_of_ble_eq_true rfl) ?_
  refine AS.seq ?_
  refine AS.region rfl ?_
  refine AS.move rfl rfl rfl rfl ?_
  refine AS.bin rfl rfl rfl rfl rfl (BinR.add (c := ((lo + 1 : Nat) : Int)) (by rw [w64 (by omega) (by omega)]; omega)) ?_
  refine AS.assign rfl rfl rfl rfl ?_
  refine AS.opsEnd ?_
  refine AS.block ?_
  refine AS.loopI (α := Nat × List Object) (fun s => lo < s.1 ∧ (s.1 ≤ hi ∨ s.1 = lo + 1) ∧ Within l s.2 lo hi ∧ SortedR s.2 lo s.1) (fun s => hi - s.1) (fun s => [(8, .int .i64 s.1)]) [(0, _), (1, _), (2, _), (3, _)] (fun s => (b, .row (rowOf encObj s.2 rs) 38) :: H) (lo + 1, l) ⟨Nat.lt_succ_self _, .inr rfl, .refl _ _ _, fun i j x y h1 h2 h3 => by omega⟩ (.cons rfl (.cons rfl (.cons rfl (.cons rfl (.cons rfl (.nil)))))) rfl (fun s hI l0_ih => ?_)
  obtain ⟨i, c⟩ := s
  dsimp only at hI l0_ih ⊢
  refine AS.seq ?_
  refine AS.seq ?_
  refine AS.region rfl ?_
  refine AS.move rfl rfl rfl rfl ?_
  refine AS.move rfl rfl rfl rfl ?_
  refine AS.bin rfl rfl rfl rfl rfl (BinR.lss rfl) ?_
  refine AS.opsEnd ?_
  refine AS.cond rfl (fun hc0 => ?_) (fun hc0 => ?_)
  · have hi1 : i < hi := by simp only [decide_eq_true_eq] at hc0; omega
    obtain ⟨hlt, hle, hW, hS⟩ := hI
    refine AS.skip ?_
    refine AS.seq ?_
    refine AS.block ?_
    refine AS.seq ?_
    refine AS.region rfl ?_
    refine AS.move rfl rfl rfl rfl ?_
    refine AS.assign rfl rfl rfl rfl ?_
    refine AS.opsEnd ?_
    refine AS.block ?_
    refine AS.loopI (α := Nat × List Object) (fun s => lo ≤ s.1 ∧ s.1 ≤ i ∧ Within l s.2 lo hi ∧ InsInv s.2 lo i s.1) (fun s => s.1) (fun s => [(9, .int .i64 s.1)]) [(0, _), (1, _), (2, _), (3, _), (8, _)] (fun s => (b, .row (rowOf encObj s.2 rs) 38) :: H) (i, c) ⟨by omega, Nat.le_refl _, hW, ins_start hS⟩ (.cons rfl (.cons rfl (.cons rfl (.cons rfl (.cons rfl (.cons rfl (.nil))))))) rfl (fun s hJ l1_ih => ?_)
    obtain ⟨j, d⟩ := s
    dsimp only at hJ l1_ih ⊢
    obtain ⟨j1, j2, hW2, hV⟩ := hJ
    have hlen := hW2.len
    have hp := hW2.perm
    refine AS.seq ?_
    refine AS.seq ?_
    refine SA.start1 TT8.mixed rfl ?_
    refine SA.rd 0 [9] rfl (fun env rest next => AS.move rfl rfl rfl rfl next) ?_
    refine SA.rd 1 [1] rfl (fun env rest next => AS.move rfl rfl rfl rfl next) ?_
    refine SA.rd 2 [18, 19] rfl (fun env rest next => AS.bin rfl rfl rfl rfl rfl (BinR.gtr rfl) next) ?_
    refine SA.rd 3 [20] rfl (fun env rest next => AS.move rfl rfl rfl rfl next) ?_
    refine SA.splitT (fun g21 => ?_) (fun g21 => ?_)
    · have hj0 : lo < j := by simp only [decide_eq_true_eq] at g21; omega
      obtain ⟨x, hx⟩ := getSome (l := d) (i := j) (by omega)
      obtain ⟨y, hy⟩ := getSome (l := d) (i := j - 1) (by omega)
      have hm1 : IntKind.i64.wrap ((j : Int) - 1) = ((j - 1 : Nat) : Int) := by rw [w64 (by omega) (by omega)]; omega
      have hj3 : j < n := by omega
      have hj4 : j - 1 < n := by omega
      refine SA.rd 4 [3, 21] rfl (fun env rest next => AS.move rfl rfl rfl rfl next) ?_
      refine SA.rd 5 [0, 21] rfl (fun env rest next => AS.move rfl rfl rfl rfl next) ?_
      refine SA.rd 6 [9, 21] rfl (fun env rest next => AS.move rfl rfl rfl rfl next) ?_
      refine SA.rd 7 [21, 23, 24] rfl (fun env rest next => AS.rowAddr rfl rfl rfl rfl rfl TT8.sl48 j rfl hj3 next) ?_
      refine SA.rd 8 [21, 25] rfl (fun env rest next => AS.loadAt (enc := encObj) rfl rfl rfl rfl TT8.ty38 encObj_sz (fun _ => rfl) hx next) ?_
      refine SA.rd 9 [0, 21] rfl (fun env rest next => AS.move rfl rfl rfl rfl next) ?_
      refine SA.rd 10 [9, 21] rfl (fun env rest next => AS.move rfl rfl rfl rfl next) ?_
      refine SA.rd 11 [21, 28] rfl (fun env rest next => AS.bin rfl rfl rfl rfl rfl (BinR.sub hm1) next) ?_
      refine SA.rd 12 [21, 27, 29] rfl (fun env rest next => AS.rowAddr rfl rfl rfl rfl rfl TT8.sl48 (j - 1) rfl hj4 next) ?_
      refine SA.rd 13 [21, 30] rfl (fun env rest next => AS.loadAt (enc := encObj) rfl rfl rfl rfl TT8.ty38 encObj_sz (fun _ => rfl) hy next) ?_
      refine SA.rd 14 [21, 22, 26, 31] rfl (fun env rest next => AS.callVP rfl rfl rfl rfl rfl TT8.en101 (cmp_spec x y _ (hk _ (hp.mem_iff.1 (List.mem_of_getElem? hx))) (hk _ (hp.mem_iff.1 (List.mem_of_getElem? hy)))) next) ?_
      refine SA.rd 15 [21, 32] rfl (fun env rest next => AS.bin rfl rfl rfl rfl rfl (BinR.lss rfl) next) ?_
      refine SA.rd 16 [21, 33] rfl (fun env rest next => AS.pick rfl rfl rfl rfl rfl next) ?_
      refine SA.done rfl rfl rfl ?_
      refine AS.cond rfl (fun hc1 => ?_) (fun hc1 => ?_)
      · rw [cmp_lt] at hc1
        refine AS.skip ?_
        refine AS.seq ?_
        refine AS.block ?_
        refine SA.start1 TT8.mixed rfl ?_
        refine SA.rd 0 [0] rfl (fun env rest next => AS.move rfl rfl rfl rfl next) ?_
        refine SA.rd 1 [9] rfl (fun env rest next => AS.move rfl rfl rfl rfl next) ?_
        refine SA.rd 2 [0] rfl (fun env rest next => AS.move rfl rfl rfl rfl next) ?_
        refine SA.rd 3 [9] rfl (fun env rest next => AS.move rfl rfl rfl rfl next) ?_
        refine SA.rd 4 [40] rfl (fun env rest next => AS.bin rfl rfl rfl rfl rfl (BinR.sub hm1) next) ?_
        refine SA.rd 5 [0] rfl (fun env rest next => AS.move rfl rfl rfl rfl next) ?_
        refine SA.rd 6 [9] rfl (fun env rest next => AS.move rfl rfl rfl rfl next) ?_
        refine SA.rd 7 [43] rfl (fun env rest next => AS.bin rfl rfl rfl rfl rfl (BinR.sub hm1) next) ?_
        refine SA.rd 8 [42, 44] rfl (fun env rest next => AS.rowAddr rfl rfl rfl rfl rfl TT8.sl48 (j - 1) rfl hj4 next) ?_
        refine SA.rd 9 [45] rfl (fun env rest next => AS.loadAt (enc := encObj) rfl rfl rfl rfl TT8.ty38 encObj_sz (fun _ => rfl) hy next) ?_
        refine SA.rd 10 [0] rfl (fun env rest next => AS.move rfl rfl rfl rfl next) ?_
        refine SA.rd 11 [9] rfl (fun env rest next => AS.move rfl rfl rfl rfl next) ?_
        refine SA.rd 12 [47, 48] rfl (fun env rest next => AS.rowAddr rfl rfl rfl rfl rfl TT8.sl48 j rfl hj3 next) ?_
        refine SA.rd 13 [49] rfl (fun env rest next => AS.loadAt (enc := encObj) rfl rfl rfl rfl TT8.ty38 encObj_sz (fun _ => rfl) hx next) ?_
        refine SA.rd 14 [37, 38] rfl (fun env rest next => AS.rowAddr rfl rfl rfl rfl rfl TT8.sl48 j rfl hj3 next) ?_
        refine SA.chg 15 [46, 51] rfl rfl rfl rfl (fun env rest next => AS.storeAt (enc := encObj) (a := y) rfl rfl rfl rfl rfl encObj_flat TT8.ty38 encObj_sz (by omega) next) ⟨trivial, ⟨trivial, ⟨trivial, ⟨trivial, ⟨trivial, ⟨trivial, ⟨trivial, ⟨trivial, ⟨trivial, ⟨trivial, ⟨(fun H _ env rest next => AS.bin rfl rfl rfl rfl rfl (BinR.sub hm1) next), ⟨(fun H _ env rest next => AS.move rfl rfl rfl rfl next), ⟨(fun H _ env rest next => AS.move rfl rfl rfl rfl next), ⟨trivial, ⟨trivial, trivial⟩⟩⟩⟩⟩⟩⟩⟩⟩⟩⟩⟩⟩⟩⟩ ?_
        refine SA.rdA 16 [39, 41] rfl (fun H env rest next => AS.rowAddr rfl rfl rfl rfl rfl TT8.sl48 (j - 1) rfl hj4 next) ?_
        refine SA.chg 17 [50, 52] rfl rfl rfl rfl (fun env rest next => AS.storeAt (enc := encObj) (a := x) rfl rfl rfl rfl rfl encObj_flat TT8.ty38 encObj_sz (by rw [List.length_set]; omega) next) ⟨trivial, ⟨trivial, ⟨trivial, ⟨trivial, ⟨trivial, ⟨trivial, ⟨trivial, ⟨trivial, ⟨trivial, ⟨trivial, ⟨trivial, ⟨trivial, ⟨trivial, ⟨trivial, ⟨trivial, ⟨trivial, ⟨trivial, trivial⟩⟩⟩⟩⟩⟩⟩⟩⟩⟩⟩⟩⟩⟩⟩⟩⟩ ?_
        refine SA.done rfl rfl rfl ?_
        refine AS.inBlock ?_
        refine AS.region rfl ?_
        refine AS.move rfl rfl rfl rfl ?_
        refine AS.bin rfl rfl rfl rfl rfl (BinR.sub hm1) ?_
        refine AS.assign rfl rfl rfl rfl ?_
        refine AS.opsEnd ?_
        exact AS.nextI (l1_ih (j - 1, sw d j (j - 1) x y) ⟨by omega, by omega, hW2.trans (sw_within hx hy (by omega) (by omega) (by omega) (by omega)), ins_step hV hj0 j2 hx hy hc1⟩ (by dsimp only; omega)) [] (.cons rfl (.cons rfl (.cons rfl (.cons rfl (.cons rfl (.cons rfl (.nil))))))) rfl
      · rw [cmp_lt] at hc1
        have hS2 := ins_end hV j2 (.inr ⟨x, y, hx, hy, hc1⟩)
        refine AS.exit rfl ?_
        refine AS.inBlock ?_
        refine AS.region rfl ?_
        refine AS.move rfl rfl rfl rfl ?_
        refine AS.bin rfl rfl rfl rfl rfl (BinR.add (w64 (by omega) (by omega))) ?_
        refine AS.assign rfl rfl rfl rfl ?_
        refine AS.opsEnd ?_
        exact AS.nextI (l0_ih (i + 1, d) ⟨by omega, .inl hi1, hW2, hS2⟩ (by dsimp only; omega)) [] (.cons rfl (.cons rfl (.cons rfl (.cons rfl (.cons rfl (.nil)))))) rfl
    · refine SA.rd 4 [3, 21] rfl (fun env rest next => AS.pass rfl rfl rfl next) ?_
      refine SA.rd 5 [0, 21] rfl (fun env rest next => AS.pass rfl rfl rfl next) ?_
      refine SA.rd 6 [9, 21] rfl (fun env rest next => AS.pass rfl rfl rfl next) ?_
      refine SA.rd 7 [21, 23, 24] rfl (fun env rest next => AS.pass rfl rfl rfl next) ?_
      refine SA.rd 8 [21, 25] rfl (fun env rest next => AS.pass rfl rfl rfl next) ?_
      refine SA.rd 9 [0, 21] rfl (fun env rest next => AS.pass rfl rfl rfl next) ?_
      refine SA.rd 10 [9, 21] rfl (fun env rest next => AS.pass rfl rfl rfl next) ?_
      refine SA.rd 11 [21, 28] rfl (fun env rest next => AS.pass rfl rfl rfl next) ?_
      refine SA.rd 12 [21, 27, 29] rfl (fun env rest next => AS.pass rfl rfl rfl next) ?_
      refine SA.rd 13 [21, 30] rfl (fun env rest next => AS.pass rfl rfl rfl next) ?_
      refine SA.rd 14 [21, 22, 26, 31] rfl (fun env rest next => AS.pass rfl rfl rfl next) ?_
      refine SA.rd 15 [21, 32] rfl (fun env rest next => AS.pass rfl rfl rfl next) ?_
      refine SA.rd 16 [21, 33] rfl (fun env rest next => AS.pick rfl rfl rfl rfl rfl next) ?_
      refine SA.done rfl rfl rfl ?_
      refine AS.condF rfl ?_
      have hS2 := ins_end hV j2 (.inl (by simp only [decide_eq_false_iff_not] at g21; omega))
      refine AS.exit rfl ?_
      refine AS.inBlock ?_
      refine AS.region rfl ?_
      refine AS.move rfl rfl rfl rfl ?_
      refine AS.bin rfl rfl rfl rfl rfl (BinR.add (w64 (by omega) (by omega))) ?_
      refine AS.assign rfl rfl rfl rfl ?_
      refine AS.opsEnd ?_
      exact AS.nextI (l0_ih (i + 1, d) ⟨by omega, .inl hi1, hW2, hS2⟩ (by dsimp only; omega)) [] (.cons rfl (.cons rfl (.cons rfl (.cons rfl (.cons rfl (.nil)))))) rfl
  · have hi1 : hi ≤ i := by simp only [decide_eq_false_iff_not] at hc0; omega
    obtain ⟨hlt, hle, hW, hS⟩ := hI
    refine AS.exit rfl ?_
    refine AS.rwk ?_
    refine AS.end_ Try.func146 rfl (.nil) ?_
    exact RWk.drop [] rfl ⟨c, hW, hS.sub (Nat.le_refl _) hi1, rfl⟩
end Go.Proofs.Ytncecheccihjoaa
/- T9 -/
namespace Go.Proofs.Ytncecheccihjoaa.TT9
open Go Go.Proofs.Fw Go.Shelf
theorem en101 : Enters Go.Proofs.Try.prog 101 := enters_of Go.Proofs.Try.func101 (by kernel_rfl) rfl
theorem en102 : Enters Go.Proofs.Try.prog 102 := enters_of Go.Proofs.Try.func102 (by kernel_rfl) rfl
theorem en126 : Enters Go.Proofs.Try.prog 126 := enters_of Go.Proofs.Try.func126 (by kernel_rfl) rfl
theorem en175 : Enters Go.Proofs.Try.prog 175 := enters_of Go.Proofs.Try.func175 (by kernel_rfl) rfl
theorem en20 : Enters Go.Proofs.Try.prog 20 := enters_of Go.Proofs.Try.func20 (by kernel_rfl) rfl
theorem en21 : Enters Go.Proofs.Try.prog 21 := enters_of Go.Proofs.Try.func21 (by kernel_rfl) rfl
theorem en52 : Enters Go.Proofs.Try.prog 52 := enters_of Go.Proofs.Try.func52 (by kernel_rfl) rfl
theorem en66 : Enters Go.Proofs.Try.prog 66 := enters_of Go.Proofs.Try.func66 (by kernel_rfl) rfl
theorem fl38_0 : fldI Go.Proofs.Try.prog 38 0 = some 0 := by kernel_rfl
theorem fl38_5 : fldI Go.Proofs.Try.prog 38 5 = some 7 := by kernel_rfl
theorem fl50_0 : fldI Go.Proofs.Try.prog 50 0 = some 0 := by kernel_rfl
theorem fl50_1 : fldI Go.Proofs.Try.prog 50 1 = some 1 := by kernel_rfl
theorem fl50_2 : fldI Go.Proofs.Try.prog 50 2 = some 9 := by kernel_rfl
theorem fl50_3 : fldI Go.Proofs.Try.prog 50 3 = some 10 := by kernel_rfl
theorem mixed : Go.Proofs.Try.prog.follows .mixedOrders = true := by kernel_rfl
theorem sl28 : sliI Go.Proofs.Try.prog 28 = some (50, 11, 144) := by kernel_rfl
theorem sl36 : sliI Go.Proofs.Try.prog 36 = some (116, 2, 24) := by kernel_rfl
theorem sl48 : sliI Go.Proofs.Try.prog 48 = some (38, 8, 104) := by kernel_rfl
theorem ty2 : tyI Go.Proofs.Try.prog 2 = some (1, false) := by kernel_rfl
theorem ty35 : tyI Go.Proofs.Try.prog 35 = some (3, true) := by kernel_rfl
theorem ty36 : tyI Go.Proofs.Try.prog 36 = some (1, false) := by kernel_rfl
theorem ty38 : tyI Go.Proofs.Try.prog 38 = some (8, true) := by kernel_rfl
theorem ty47 : tyI Go.Proofs.Try.prog 47 = some (1, false) := by kernel_rfl
theorem ty48 : tyI Go.Proofs.Try.prog 48 = some (1, false) := by kernel_rfl
theorem ty50 : tyI Go.Proofs.Try.prog 50 = some (11, true) := by kernel_rfl
theorem u28 : Go.Proofs.Try.prog.underlying 28 = some (.slice 50) := by kernel_rfl
theorem u36 : Go.Proofs.Try.prog.underlying 36 = some (.slice 116) := by kernel_rfl
theorem u48 : Go.Proofs.Try.prog.underlying 48 = some (.slice 38) := by kernel_rfl
theorem z116 : zI Go.Proofs.Try.prog 116 = some (.agg #[(.string ⟨#[]⟩), (.int .i64 0)]) := by kernel_rfl
theorem z38 : zI Go.Proofs.Try.prog 38 = some (.agg #[(.string ⟨#[]⟩), (.string ⟨#[]⟩), (.string ⟨#[]⟩), (.int .i64 0), (.string ⟨#[]⟩), (.bool false), (.bool false), (.slice none 0 0)]) := by kernel_rfl
theorem z50 : zI Go.Proofs.Try.prog 50 = some (.agg #[(.int .i64 0), (.string ⟨#[]⟩), (.string ⟨#[]⟩), (.string ⟨#[]⟩), (.int .i64 0), (.string ⟨#[]⟩), (.bool false), (.bool false), (.slice none 0 0), (.int .i64 0), (.slice none 0 0)]) := by kernel_rfl
end Go.Proofs.Ytncecheccihjoaa.TT9
namespace Go.Proofs.Ytncecheccihjoaa
open Go Go.Proofs.Fw Go.Proofs
set_option linter.unusedVariables false
set_option linter.unusedSimpArgs false
set_option maxRecDepth 20000
set_option maxHeartbeats 4000000
theorem swapRange_spec (l : List Object) (rs : List AV) (b n cap lo hi m : Nat) (fv : AV) (H : AH) (hn : n = l.length) (hh : hi + m ≤ n) (hb : n ≤ 1000000) (hlo : lo + m ≤ hi) : ACalls Try.prog [] 175 [.mslice b 0 n cap, .int .i64 lo, .int .i64 hi, .int .i64 m, fv] ((b, .row (rowOf encObj l rs) 38) :: H) (fun _ H' => ∃ l', l'.length = l.length ∧ l'.Perm l ∧ (∀ k, l'[k]? = l[swapAt lo hi m k]?) ∧ H' = (b, .row (rowOf encObj l' rs) 38) :: H) := by
  refine ACalls.enter (n := 38) Try.func175 rfl rfl (Nat.le_of_ble_eq_true rfl) ?_
  refine AS.seq ?_
  refine AS.region rfl ?_
  refine AS.assign rfl rfl rfl rfl ?_
  refine AS.opsEnd ?_
  refine AS.block ?_
  refine AS.loopI (α := Nat × List Object) (fun s => s.1 ≤ m ∧ s.2.length = l.length ∧ s.2.Perm l ∧ ∀ k, s.2[k]? = l[swapAt lo hi s.1 k]?) (fun s => m - s.1) (fun s => [(10, .int .i64 s.1)]) [(0, _), (1, _), (2, _), (3, _)] (fun s => (b, .row (rowOf encObj s.2 rs) 38) :: H) (0, l) ⟨Nat.zero_le _, rfl, .refl _, fun k => by dsimp only [swapAt]; rw [if_neg (by omega), if_neg (by omega)]⟩ (.cons rfl (.cons rfl (.cons rfl (.cons rfl (.cons rfl (.nil)))))) rfl (fun s hI l0_ih => ?_)
  obtain ⟨i, c⟩ := s
  dsimp only at hI l0_ih ⊢
  obtain ⟨hi1, hlen, hp, hs⟩ := hI
  refine AS.seq ?_
  refine AS.seq ?_
  refine AS.region rfl ?_
  refine AS.move rfl rfl rfl rfl ?_
  refine AS.move rfl rfl rfl rfl ?_
  refine AS.bin rfl rfl rfl rfl rfl (BinR.lss rfl) ?_
  refine AS.opsEnd ?_
  refine AS.cond rfl (fun hc0 => ?_) (fun hc0 => ?_)
  · have hi2 : i < m := by simp only [decide_eq_true_eq] at hc0; omega
    obtain ⟨x, hx⟩ := getSome (l := c) (i := lo + i) (by omega)
    obtain ⟨y, hy⟩ := getSome (l := c) (i := hi + i) (by omega)
    have e1 : IntKind.i64.wrap ((lo : Int) + (i : Int)) = ((lo + i : Nat) : Int) := by rw [w64 (by omega) (by omega)]; omega
    have e2 : IntKind.i64.wrap ((hi : Int) + (i : Int)) = ((hi + i : Nat) : Int) := by rw [w64 (by omega) (by omega)]; omega
    have e3 : lo + i < n := by omega
    have e4 : hi + i < n := by omega
    refine AS.skip ?_
    refine AS.seq ?_
    refine AS.block ?_
    refine SA.start1 TT9.mixed rfl ?_
    refine SA.rd 0 [0] rfl (fun env rest next => AS.move rfl rfl rfl rfl next) ?_
    refine SA.rd 1 [1] rfl (fun env rest next => AS.move rfl rfl rfl rfl next) ?_
    refine SA.rd 2 [10] rfl (fun env rest next => AS.move rfl rfl rfl rfl next) ?_
    refine SA.rd 3 [17, 18] rfl (fun env rest next => AS.bin rfl rfl rfl rfl rfl (BinR.add e1) next) ?_
    refine SA.rd 4 [0] rfl (fun env rest next => AS.move rfl rfl rfl rfl next) ?_
    refine SA.rd 5 [2] rfl (fun env rest next => AS.move rfl rfl rfl rfl next) ?_
    refine SA.rd 6 [10] rfl (fun env rest next => AS.move rfl rfl rfl rfl next) ?_
    refine SA.rd 7 [21, 22] rfl (fun env rest next => AS.bin rfl rfl rfl rfl rfl (BinR.add e2) next) ?_
    refine SA.rd 8 [0] rfl (fun env rest next => AS.move rfl rfl rfl rfl next) ?_
    refine SA.rd 9 [2] rfl (fun env rest next => AS.move rfl rfl rfl rfl next) ?_
    refine SA.rd 10 [10] rfl (fun env rest next => AS.move rfl rfl rfl rfl next) ?_
    refine SA.rd 11 [25, 26] rfl (fun env rest next => AS.bin rfl rfl rfl rfl rfl (BinR.add e2) next) ?_
    refine SA.rd 12 [24, 27] rfl (fun env rest next => AS.rowAddr rfl rfl rfl rfl rfl TT9.sl48 (hi + i) rfl e4 next) ?_
    refine SA.rd 13 [28] rfl (fun env rest next => AS.loadAt (enc := encObj) rfl rfl rfl rfl TT9.ty38 encObj_sz (fun _ => rfl) hy next) ?_
    refine SA.rd 14 [0] rfl (fun env rest next => AS.move rfl rfl rfl rfl next) ?_
    refine SA.rd 15 [1] rfl (fun env rest next => AS.move rfl rfl rfl rfl next) ?_
    refine SA.rd 16 [10] rfl (fun env rest next => AS.move rfl rfl rfl rfl next) ?_
    refine SA.rd 17 [31, 32] rfl (fun env rest next => AS.bin rfl rfl rfl rfl rfl (BinR.add e1) next) ?_
    refine SA.rd 18 [30, 33] rfl (fun env rest next => AS.rowAddr rfl rfl rfl rfl rfl TT9.sl48 (lo + i) rfl e3 next) ?_
    refine SA.rd 19 [34] rfl (fun env rest next => AS.loadAt (enc := encObj) rfl rfl rfl rfl TT9.ty38 encObj_sz (fun _ => rfl) hx next) ?_
    refine SA.rd 20 [16, 19] rfl (fun env rest next => AS.rowAddr rfl rfl rfl rfl rfl TT9.sl48 (lo + i) rfl e3 next) ?_
    refine SA.chg 21 [29, 36] rfl rfl rfl rfl (fun env rest next => AS.storeAt (enc := encObj) (a := y) rfl rfl rfl rfl rfl encObj_flat TT9.ty38 encObj_sz (by omega) next) ⟨trivial, ⟨trivial, ⟨trivial, ⟨trivial, ⟨trivial, ⟨trivial, ⟨trivial, ⟨trivial, ⟨trivial, ⟨trivial, ⟨trivial, ⟨trivial, ⟨trivial, ⟨(fun H _ env rest next => AS.bin rfl rfl rfl rfl rfl (BinR.add e2) next), ⟨(fun H _ env rest next => AS.move rfl rfl rfl rfl next), ⟨(fun H _ env rest next => AS.move rfl rfl rfl rfl next), ⟨(fun H _ env rest next => AS.move rfl rfl rfl rfl next), ⟨trivial, ⟨trivial, ⟨trivial, ⟨trivial, trivial⟩⟩⟩⟩⟩⟩⟩⟩⟩⟩⟩⟩⟩⟩⟩⟩⟩⟩⟩⟩⟩ ?_
    refine SA.rdA 22 [20, 23] rfl (fun H env rest next => AS.rowAddr rfl rfl rfl rfl rfl TT9.sl48 (hi + i) rfl e4 next) ?_
    refine SA.chg 23 [35, 37] rfl rfl rfl rfl (fun env rest next => AS.storeAt (enc := encObj) (a := x) rfl rfl rfl rfl rfl encObj_flat TT9.ty38 encObj_sz (by rw [List.length_set]; omega) next) ⟨trivial, ⟨trivial, ⟨trivial, ⟨trivial, ⟨trivial, ⟨trivial, ⟨trivial, ⟨trivial, ⟨trivial, ⟨trivial, ⟨trivial, ⟨trivial, ⟨trivial, ⟨trivial, ⟨trivial, ⟨trivial, ⟨trivial, ⟨trivial, ⟨trivial, ⟨trivial, ⟨trivial, ⟨trivial, ⟨trivial, trivial⟩⟩⟩⟩⟩⟩⟩⟩⟩⟩⟩⟩⟩⟩⟩⟩⟩⟩⟩⟩⟩⟩⟩ ?_
    refine SA.done rfl rfl rfl ?_
    refine AS.inBlock ?_
    refine AS.region rfl ?_
    refine AS.move rfl rfl rfl rfl ?_
    refine AS.bin rfl rfl rfl rfl rfl (BinR.add (w64 (by omega) (by omega))) ?_
    refine AS.assign rfl rfl rfl rfl ?_
    refine AS.opsEnd ?_
    exact AS.nextI (l0_ih (i + 1, sw c (lo + i) (hi + i) x y) ⟨by omega, by rw [sw_len]; exact hlen, (sw_perm hx hy).trans hp, swapAt_step hs (by omega) hx hy⟩ (by dsimp only; omega)) [] (.cons rfl (.cons rfl (.cons rfl (.cons rfl (.cons rfl (.nil)))))) rfl
  · have hi2 : i = m := by simp only [decide_eq_false_iff_not] at hc0; omega
    subst hi2
    refine AS.exit rfl ?_
    refine AS.rwk ?_
    refine AS.end_ Try.func175 rfl (.nil) ?_
    exact RWk.drop [] rfl ⟨c, hlen, hp, hs, rfl⟩
theorem rotate_spec (l : List Object) (rs : List AV) (b n cap lo m hi : Nat) (fv : AV) (H : AH) (hn : n = l.length) (hh : hi ≤ n) (hb : n ≤ 1000000) (h1 : lo < m) (h2 : m < hi) : ACalls Try.prog [] 166 [.mslice b 0 n cap, .int .i64 lo, .int .i64 m, .int .i64 hi, fv] ((b, .row (rowOf encObj l rs) 38) :: H) (fun _ H' => ∃ l', l'.length = l.length ∧ l'.Perm l ∧ (∀ k, l'[k]? = l[rotAt lo m hi k]?) ∧ H' = (b, .row (rowOf encObj l' rs) 38) :: H) := by
  refine ACalls.enter (n := 58) Try.func166 rfl rfl (Nat.le_of_ble_eq_true rfl) ?_
  refine AS.seq ?_
  refine AS.region rfl ?_
  refine AS.move rfl rfl rfl rfl ?_
  refine AS.move rfl rfl rfl rfl ?_
  refine AS.bin rfl rfl rfl rfl rfl (BinR.sub (c := ((m - lo : Nat) : Int)) (by rw [w64 (by omega) (by omega)]; omega)) ?_
  refine AS.assign rfl rfl rfl rfl ?_
  refine AS.opsEnd ?_
  refine AS.seq ?_
  refine AS.region rfl ?_
  refine AS.move rfl rfl rfl rfl ?_
  refine AS.move rfl rfl rfl rfl ?_
  refine AS.bin rfl rfl rfl rfl rfl (BinR.sub (c := ((hi - m : Nat) : Int)) (by rw [w64 (by omega) (by omega)]; omega)) ?_
  refine AS.assign rfl rfl rfl rfl ?_
  refine AS.opsEnd ?_
  refine AS.seq ?_
  refine AS.block ?_
  refine AS.loopI (α := Nat × Nat × List Object) (fun s => 0 < s.1 ∧ 0 < s.2.1 ∧ s.1 ≤ m - lo ∧ s.2.1 ≤ hi - m ∧ s.2.2.length = l.length ∧ s.2.2.Perm l ∧ RotInv l s.2.2 lo m hi s.1 s.2.1) (fun s => s.1 + s.2.1) (fun s => [(10, .int .i64 s.1), (11, .int .i64 s.2.1)]) [(0, _), (2, _), (4, _)] (fun s => (b, .row (rowOf encObj s.2.2 rs) 38) :: H) (m - lo, hi - m, l) ⟨by dsimp only; omega, by dsimp only; omega, Nat.le_refl _, Nat.le_refl _, rfl, .refl _, rot_start l h1 h2⟩ (.cons rfl (.cons rfl (.cons rfl (.cons rfl (.cons rfl (.nil)))))) rfl (fun s hI l0_ih => ?_)
  obtain ⟨i, j, c⟩ := s
  dsimp only at hI l0_ih ⊢
  obtain ⟨i0, j0, hi1, hj1, hlen, hp, hs⟩ := hI
  refine AS.seq ?_
  refine AS.seq ?_
  refine AS.region rfl ?_
  refine AS.move rfl rfl rfl rfl ?_
  refine AS.move rfl rfl rfl rfl ?_
  refine AS.bin rfl rfl rfl rfl rfl (BinR.neq rfl) ?_
  refine AS.opsEnd ?_
  refine AS.cond rfl (fun hc0 => ?_) (fun hc0 => ?_)
  · have hne : i ≠ j := by simp only [decide_eq_true_eq] at hc0; omega
    refine AS.skip ?_
    refine AS.block ?_
    refine AS.seq ?_
    refine AS.region rfl ?_
    refine AS.move rfl rfl rfl rfl ?_
    refine AS.move rfl rfl rfl rfl ?_
    refine AS.bin rfl rfl rfl rfl rfl (BinR.gtr rfl) ?_
    refine AS.opsEnd ?_
    refine AS.cond rfl (fun hc1 => ?_) (fun hc1 => ?_)
    · have hij : j < i := by simp only [decide_eq_true_eq] at hc1; omega
      refine AS.seq ?_
      refine AS.region rfl ?_
      refine AS.move rfl rfl rfl rfl ?_
      refine AS.move rfl rfl rfl rfl ?_
      refine AS.move rfl rfl rfl rfl ?_
      refine AS.bin rfl rfl rfl rfl rfl (BinR.sub (c := ((m - i : Nat) : Int)) (by rw [w64 (by omega) (by omega)]; omega)) ?_
      refine AS.move rfl rfl rfl rfl ?_
      refine AS.move rfl rfl rfl rfl ?_
      refine AS.move rfl rfl rfl rfl ?_
      refine AS.call rfl rfl rfl rfl TT9.en175 (swapRange_spec c rs b n cap (m - i) (m) (j) fv H (by omega) (by omega) hb (by omega)) ?_
      rintro _ _ ⟨c', d1, d2, d3, rfl⟩
      refine AS.opsEnd ?_
      refine AS.region rfl ?_
      refine AS.move rfl rfl rfl rfl ?_
      refine AS.move rfl rfl rfl rfl ?_
      refine AS.bin rfl rfl rfl rfl rfl (BinR.sub (c := ((i - j : Nat) : Int)) (by rw [w64 (by omega) (by omega)]; omega)) ?_
      refine AS.assign rfl rfl rfl rfl ?_
      refine AS.opsEnd ?_
      refine AS.inBlock ?_
      exact AS.nextI (l0_ih (i - j, j, c') ⟨by dsimp only; omega, j0, by dsimp only; omega, hj1, by dsimp only; omega, d2.trans hp, rot_big hs hij (by omega) d3⟩ (by dsimp only; omega)) [] (.cons rfl (.cons rfl (.cons rfl (.cons rfl (.cons rfl (.nil)))))) rfl
    · have hij : i < j := by simp only [decide_eq_false_iff_not] at hc1; omega
      refine AS.seq ?_
      refine AS.region rfl ?_
      refine AS.move rfl rfl rfl rfl ?_
      refine AS.move rfl rfl rfl rfl ?_
      refine AS.move rfl rfl rfl rfl ?_
      refine AS.bin rfl rfl rfl rfl rfl (BinR.sub (c := ((m - i : Nat) : Int)) (by rw [w64 (by omega) (by omega)]; omega)) ?_
      refine AS.move rfl rfl rfl rfl ?_
      refine AS.move rfl rfl rfl rfl ?_
      refine AS.bin rfl rfl rfl rfl rfl (BinR.add (c := ((m + j : Nat) : Int)) (by rw [w64 (by omega) (by omega)]; omega)) ?_
      refine AS.move rfl rfl rfl rfl ?_
      refine AS.bin rfl rfl rfl rfl rfl (BinR.sub (c := ((m + j - i : Nat) : Int)) (by rw [w64 (by omega) (by omega)]; omega)) ?_
      refine AS.move rfl rfl rfl rfl ?_
      refine AS.move rfl rfl rfl rfl ?_
      refine AS.call rfl rfl rfl rfl TT9.en175 (swapRange_spec c rs b n cap (m - i) (m + j - i) (i) fv H (by omega) (by omega) hb (by omega)) ?_
      rintro _ _ ⟨c', d1, d2, d3, rfl⟩
      refine AS.opsEnd ?_
      refine AS.region rfl ?_
      refine AS.move rfl rfl rfl rfl ?_
      refine AS.move rfl rfl rfl rfl ?_
      refine AS.bin rfl rfl rfl rfl rfl (BinR.sub (c := ((j - i : Nat) : Int)) (by rw [w64 (by omega) (by omega)]; omega)) ?_
      refine AS.assign rfl rfl rfl rfl ?_
      refine AS.opsEnd ?_
      refine AS.inBlock ?_
      exact AS.nextI (l0_ih (i, j - i, c') ⟨i0, by dsimp only; omega, hi1, by dsimp only; omega, by dsimp only; omega, d2.trans hp, rot_small hs hij (by omega) d3⟩ (by dsimp only; omega)) [] (.cons rfl (.cons rfl (.cons rfl (.cons rfl (.cons rfl (.nil)))))) rfl
  · have hne : i = j := by simp only [decide_eq_false_iff_not] at hc0; omega
    subst hne
    refine AS.exit rfl ?_
    refine AS.region rfl ?_
    refine AS.move rfl rfl rfl rfl ?_
    refine AS.move rfl rfl rfl rfl ?_
    refine AS.move rfl rfl rfl rfl ?_
    refine AS.bin rfl rfl rfl rfl rfl (BinR.sub (c := ((m - i : Nat) : Int)) (by rw [w64 (by omega) (by omega)]; omega)) ?_
    refine AS.move rfl rfl rfl rfl ?_
    refine AS.move rfl rfl rfl rfl ?_
    refine AS.move rfl rfl rfl rfl ?_
    refine AS.call rfl rfl rfl rfl TT9.en175 (swapRange_spec c rs b n cap (m - i) (m) (i) fv H (by omega) (by omega) hb (by omega)) ?_
    rintro _ _ ⟨c', d1, d2, d3, rfl⟩
    refine AS.opsEnd ?_
    refine AS.rwk ?_
    refine AS.end_ Try.func166 rfl (.nil) ?_
    exact RWk.drop [] rfl ⟨c', by omega, d2.trans hp, rot_end hs (by omega) d3, rfl⟩
end Go.Proofs.Ytncecheccihjoaa
/- T10 -/
namespace Go.Proofs.Ytncecheccihjoaa.TT10
open Go Go.Proofs.Fw Go.Shelf
theorem en101 : Enters Go.Proofs.Try.prog 101 := enters_of Go.Proofs.Try.func101 (by kernel_rfl) rfl
theorem en102 : Enters Go.Proofs.Try.prog 102 := enters_of Go.Proofs.Try.func102 (by kernel_rfl) rfl
theorem en126 : Enters Go.Proofs.Try.prog 126 := enters_of Go.Proofs.Try.func126 (by kernel_rfl) rfl
theorem en147 : Enters Go.Proofs.Try.prog 147 := enters_of Go.Proofs.Try.func147 (by kernel_rfl) rfl
theorem en166 : Enters Go.Proofs.Try.prog 166 := enters_of Go.Proofs.Try.func166 (by kernel_rfl) rfl
theorem en175 : Enters Go.Proofs.Try.prog 175 := enters_of Go.Proofs.Try.func175 (by kernel_rfl) rfl
theorem en20 : Enters Go.Proofs.Try.prog 20 := enters_of Go.Proofs.Try.func20 (by kernel_rfl) rfl
theorem en21 : Enters Go.Proofs.Try.prog 21 := enters_of Go.Proofs.Try.func21 (by kernel_rfl) rfl
theorem en52 : Enters Go.Proofs.Try.prog 52 := enters_of Go.Proofs.Try.func52 (by kernel_rfl) rfl
theorem en66 : Enters Go.Proofs.Try.prog 66 := enters_of Go.Proofs.Try.func66 (by kernel_rfl) rfl
theorem fl38_0 : fldI Go.Proofs.Try.prog 38 0 = some 0 := by kernel_rfl
theorem fl38_5 : fldI Go.Proofs.Try.prog 38 5 = some 7 := by kernel_rfl
theorem fl50_0 : fldI Go.Proofs.Try.prog 50 0 = some 0 := by kernel_rfl
theorem fl50_1 : fldI Go.Proofs.Try.prog 50 1 = some 1 := by kernel_rfl
theorem fl50_2 : fldI Go.Proofs.Try.prog 50 2 = some 9 := by kernel_rfl
theorem fl50_3 : fldI Go.Proofs.Try.prog 50 3 = some 10 := by kernel_rfl
theorem mixed : Go.Proofs.Try.prog.follows .mixedOrders = true := by kernel_rfl
theorem sl28 : sliI Go.Proofs.Try.prog 28 = some (50, 11, 144) := by kernel_rfl
theorem sl36 : sliI Go.Proofs.Try.prog 36 = some (116, 2, 24) := by kernel_rfl
theorem sl48 : sliI Go.Proofs.Try.prog 48 = some (38, 8, 104) := by kernel_rfl
theorem ty2 : tyI Go.Proofs.Try.prog 2 = some (1, false) := by kernel_rfl
theorem ty35 : tyI Go.Proofs.Try.prog 35 = some (3, true) := by kernel_rfl
theorem ty36 : tyI Go.Proofs.Try.prog 36 = some (1, false) := by kernel_rfl
theorem ty38 : tyI Go.Proofs.Try.prog 38 = some (8, true) := by kernel_rfl
theorem ty47 : tyI Go.Proofs.Try.prog 47 = some (1, false) := by kernel_rfl
theorem ty48 : tyI Go.Proofs.Try.prog 48 = some (1, false) := by kernel_rfl
theorem ty50 : tyI Go.Proofs.Try.prog 50 = some (11, true) := by kernel_rfl
theorem u180 : Go.Proofs.Try.prog.underlying 180 = some (.int .u64) := by kernel_rfl
theorem u28 : Go.Proofs.Try.prog.underlying 28 = some (.slice 50) := by kernel_rfl
theorem u3 : Go.Proofs.Try.prog.underlying 3 = some (.int .i64) := by kernel_rfl
theorem u36 : Go.Proofs.Try.prog.underlying 36 = some (.slice 116) := by kernel_rfl
theorem u48 : Go.Proofs.Try.prog.underlying 48 = some (.slice 38) := by kernel_rfl
theorem z116 : zI Go.Proofs.Try.prog 116 = some (.agg #[(.string ⟨#[]⟩), (.int .i64 0)]) := by kernel_rfl
theorem z38 : zI Go.Proofs.Try.prog 38 = some (.agg #[(.string ⟨#[]⟩), (.string ⟨#[]⟩), (.string ⟨#[]⟩), (.int .i64 0), (.string ⟨#[]⟩), (.bool false), (.bool false), (.slice none 0 0)]) := by kernel_rfl
theorem z50 : zI Go.Proofs.Try.prog 50 = some (.agg #[(.int .i64 0), (.string ⟨#[]⟩), (.string ⟨#[]⟩), (.string ⟨#[]⟩), (.int .i64 0), (.string ⟨#[]⟩), (.bool false), (.bool false), (.slice none 0 0), (.int .i64 0), (.slice none 0 0)]) := by kernel_rfl
end Go.Proofs.Ytncecheccihjoaa.TT10
namespace Go.Proofs.Ytncecheccihjoaa
open Go Go.Proofs.Fw Go.Proofs
set_option linter.unusedVariables false
set_option linter.unusedSimpArgs false
set_option maxRecDepth 20000
set_option maxHeartbeats 4000000
def SymC (N : Nat) : Prop := ∀ (l : List Object) (rs : List AV) (b n cap lo m hi : Nat) (H : AH), (∀ o ∈ l, keyFits o.key) → n = l.length → hi ≤ n → n ≤ 1000000 → lo < m → m < hi → SortedR l lo m → SortedR l m hi → hi - lo < N →
  ACalls Try.prog [] 147 [.mslice b 0 n cap, .int .i64 lo, .int .i64 m, .int .i64 hi, .func (.func 101) [] []] ((b, .row (rowOf encObj l rs) 38) :: H) (fun _ H' => ∃ l', Within l l' lo hi ∧ SortedR l' lo hi ∧ H' = (b, .row (rowOf encObj l' rs) 38) :: H)

theorem symMerge_step (N : Nat) (ih : SymC N) (l : List Object) (rs : List AV) (b n cap lo m hi : Nat) (H : AH) (hk : ∀ o ∈ l, keyFits o.key) (hn : n = l.length) (hh : hi ≤ n) (hb : n ≤ 1000000) (h1 : lo < m) (h2 : m < hi) (s1 : SortedR l lo m) (s2 : SortedR l m hi) (hN : hi - lo < N + 1) : ACalls Try.prog [] 147 [.mslice b 0 n cap, .int .i64 lo, .int .i64 m, .int .i64 hi, .func (.func 101) [] []] ((b, .row (rowOf encObj l rs) 38) :: H) (fun _ H' => ∃ l', Within l l' lo hi ∧ SortedR l' lo hi ∧ H' = (b, .row (rowOf encObj l' rs) 38) :: H) := by
  refine ACalls.enter (n := 220) Try.func147 rfl rfl (Nat.le_of_ble_eq_true rfl) ?_
  refine AS.seq ?_
  refine AS.seq ?_
  refine AS.region rfl ?_
  refine AS.move rfl rfl rfl rfl ?_
  refine AS.move rfl rfl rfl rfl ?_
  refine AS.bin rfl rfl rfl rfl rfl (BinR.sub (c := ((m - lo : Nat) : Int)) (by rw [w64 (by omega) (by omega)]; omega)) ?_
  refine AS.bin rfl rfl rfl rfl rfl (BinR.eql rfl) ?_
  refine AS.opsEnd ?_
  refine AS.cond rfl (fun hc0 => ?_) (fun hc0 => ?_)
  · have e0 : m = lo + 1 := by simp only [decide_eq_true_eq] at hc0; omega
    refine AS.seq ?_
    refine AS.region rfl ?_
    refine AS.move rfl rfl rfl rfl ?_
    refine AS.assign rfl rfl rfl rfl ?_
    refine AS.opsEnd ?_
    refine AS.seq ?_
    refine AS.region rfl ?_
    refine AS.move rfl rfl rfl rfl ?_
    refine AS.assign rfl rfl rfl rfl ?_
    refine AS.opsEnd ?_
    refine AS.seq ?_
    refine AS.block ?_
    refine AS.loopI (α := Nat × Nat) (fun s => m ≤ s.1 ∧ s.1 ≤ s.2 ∧ s.2 ≤ hi ∧ (s.1 = m ∨ ∃ x y, l[s.1 - 1]? = some x ∧ l[lo]? = some y ∧ keyLess x.key y.key = true) ∧ (s.2 = hi ∨ ∃ x y, l[s.2]? = some x ∧ l[lo]? = some y ∧ keyLess x.key y.key = false)) (fun s => s.2 - s.1) (fun s => [(10, .int .i64 s.1), (11, .int .i64 s.2)]) [(0, _), (1, _), (4, _)] (fun s => (b, .row (rowOf encObj l rs) 38) :: H) (m, hi) ⟨Nat.le_refl _, by dsimp only; omega, Nat.le_refl _, .inl rfl, .inl rfl⟩ (.cons rfl (.cons rfl (.cons rfl (.cons rfl (.cons rfl (.nil)))))) rfl (fun s hI l0_ih => ?_)
    obtain ⟨i, j⟩ := s
    dsimp only at hI l0_ih ⊢
    obtain ⟨i1, i2, i3, i4, i5⟩ := hI
    refine AS.seq ?_
    refine AS.seq ?_
    refine AS.region rfl ?_
    refine AS.move rfl rfl rfl rfl ?_
    refine AS.move rfl rfl rfl rfl ?_
    refine AS.bin rfl rfl rfl rfl rfl (BinR.lss rfl) ?_
    refine AS.opsEnd ?_
    refine AS.cond rfl (fun hc1 => ?_) (fun hc1 => ?_)
    · have hij : i < j := by simp only [decide_eq_true_eq] at hc1; omega
      have hu0 : IntKind.i64.wrap ((i : Int) + (j : Int)) = ((i + j : Nat) : Int) := by rw [w64 (by omega) (by omega)]; omega
      have hu1 : IntKind.u64.wrap ((i + j : Nat) : Int) = ((i + j : Nat) : Int) := IntWalk.u64_in _ ⟨by omega, by omega⟩
      have hu2 : ((i + j : Nat) : Int) / 2 ^ (1 : Int).toNat = (((i + j) / 2 : Nat) : Int) := by show _ / (2 ^ 1 : Int) = _; omega
      have hu3 : IntKind.i64.wrap (((i + j) / 2 : Nat) : Int) = (((i + j) / 2 : Nat) : Int) := w64 (by omega) (by omega)
      obtain ⟨x, hx⟩ := getSome (l := l) (i := (i + j) / 2) (by omega)
      obtain ⟨y, hy⟩ := getSome (l := l) (i := lo) (by omega)
      have hb1 : (i + j) / 2 < n := by omega
      have hb2 : lo < n := by omega
      refine AS.skip ?_
      refine AS.block ?_
      refine AS.seq ?_
      refine AS.region rfl ?_
      refine AS.move rfl rfl rfl rfl ?_
      refine AS.move rfl rfl rfl rfl ?_
      refine AS.bin rfl rfl rfl rfl rfl (BinR.add hu0) ?_
      refine AS.convInt rfl rfl rfl rfl TT10.u3 TT10.u180 hu1 ?_
      refine AS.bin rfl rfl rfl rfl rfl (BinR.shr (by decide) (by decide) hu2) ?_
      refine AS.convInt rfl rfl rfl rfl TT10.u180 TT10.u3 hu3 ?_
      refine AS.assign rfl rfl rfl rfl ?_
      refine AS.opsEnd ?_
      refine AS.seq ?_
      refine SA.start1 TT10.mixed rfl ?_
      refine SA.rd 0 [4] rfl (fun env rest next => AS.move rfl rfl rfl rfl next) ?_
      refine SA.rd 1 [0] rfl (fun env rest next => AS.move rfl rfl rfl rfl next) ?_
      refine SA.rd 2 [12] rfl (fun env rest next => AS.move rfl rfl rfl rfl next) ?_
      refine SA.rd 3 [41, 42] rfl (fun env rest next => AS.rowAddr rfl rfl rfl rfl rfl TT10.sl48 ((i + j) / 2) rfl hb1 next) ?_
      refine SA.rd 4 [43] rfl (fun env rest next => AS.loadAt (enc := encObj) rfl rfl rfl rfl TT10.ty38 encObj_sz (fun _ => rfl) hx next) ?_
      refine SA.rd 5 [0] rfl (fun env rest next => AS.move rfl rfl rfl rfl next) ?_
      refine SA.rd 6 [1] rfl (fun env rest next => AS.move rfl rfl rfl rfl next) ?_
      refine SA.rd 7 [45, 46] rfl (fun env rest next => AS.rowAddr rfl rfl rfl rfl rfl TT10.sl48 lo rfl hb2 next) ?_
      refine SA.rd 8 [47] rfl (fun env rest next => AS.loadAt (enc := encObj) rfl rfl rfl rfl TT10.ty38 encObj_sz (fun _ => rfl) hy next) ?_
      refine SA.rd 9 [40, 44, 48] rfl (fun env rest next => AS.callVP rfl rfl rfl rfl rfl TT10.en101 (cmp_spec x y _ (hk _ (List.mem_of_getElem? hx)) (hk _ (List.mem_of_getElem? hy))) next) ?_
      refine SA.rd 10 [49] rfl (fun env rest next => AS.bin rfl rfl rfl rfl rfl (BinR.lss rfl) next) ?_
      refine SA.done rfl rfl rfl ?_
      refine AS.cond rfl (fun hc2 => ?_) (fun hc2 => ?_)
      · rw [cmp_lt] at hc2
        refine AS.region rfl ?_
        refine AS.move rfl rfl rfl rfl ?_
        refine AS.bin rfl rfl rfl rfl rfl (BinR.add (c := (((i + j) / 2 + 1 : Nat) : Int)) (by rw [w64 (by omega) (by omega)]; omega)) ?_
        refine AS.assign rfl rfl rfl rfl ?_
        refine AS.opsEnd ?_
        refine AS.inBlock ?_
        exact AS.nextI (l0_ih ((i + j) / 2 + 1, j) ⟨by dsimp only; omega, by dsimp only; omega, i3, .inr ⟨x, y, by dsimp only; rw [Nat.add_sub_cancel]; exact hx, hy, hc2⟩, i5⟩ (by dsimp only; omega)) [] (.cons rfl (.cons rfl (.cons rfl (.cons rfl (.cons rfl (.nil)))))) rfl
      · rw [cmp_lt] at hc2
        refine AS.region rfl ?_
        refine AS.move rfl rfl rfl rfl ?_
        refine AS.assign rfl rfl rfl rfl ?_
        refine AS.opsEnd ?_
        refine AS.inBlock ?_
        exact AS.nextI (l0_ih (i, (i + j) / 2) ⟨i1, by dsimp only; omega, by dsimp only; omega, i4, .inr ⟨x, y, hx, hy, hc2⟩⟩ (by dsimp only; omega)) [] (.cons rfl (.cons rfl (.cons rfl (.cons rfl (.cons rfl (.nil)))))) rfl
    · have hij : i = j := by simp only [decide_eq_false_iff_not] at hc1; omega
      subst hij
      refine AS.exit rfl ?_
      refine AS.seq ?_
      refine AS.seq ?_
      refine AS.region rfl ?_
      refine AS.move rfl rfl rfl rfl ?_
      refine AS.assign rfl rfl rfl rfl ?_
      refine AS.opsEnd ?_
      refine AS.block ?_
      refine AS.loopI (α := Nat × List Object) (fun s => lo ≤ s.1 ∧ s.1 ≤ i - 1 ∧ s.2.length = l.length ∧ s.2.Perm l ∧ ∀ p, s.2[p]? = l[upAt lo s.1 p]?) (fun s => i - 1 - s.1) (fun s => [(13, .int .i64 s.1)]) [(0, _), (10, _)] (fun s => (b, .row (rowOf encObj s.2 rs) 38) :: H) (lo, l) ⟨Nat.le_refl _, by dsimp only; omega, rfl, .refl _, up_start l lo⟩ (.cons rfl (.cons rfl (.cons rfl (.nil)))) rfl (fun s hI l1_ih => ?_)
      obtain ⟨k, c⟩ := s
      dsimp only at hI l1_ih ⊢
      obtain ⟨k1, k2, hlen, hp, hs⟩ := hI
      refine AS.seq ?_
      refine AS.seq ?_
      refine AS.region rfl ?_
      refine AS.move rfl rfl rfl rfl ?_
      refine AS.move rfl rfl rfl rfl ?_
      refine AS.bin rfl rfl rfl rfl rfl (BinR.sub (c := ((i - 1 : Nat) : Int)) (by rw [w64 (by omega) (by omega)]; omega)) ?_
      refine AS.bin rfl rfl rfl rfl rfl (BinR.lss rfl) ?_
      refine AS.opsEnd ?_
      refine AS.cond rfl (fun hc3 => ?_) (fun hc3 => ?_)
      · have hk3 : k < i - 1 := by simp only [decide_eq_true_eq] at hc3; omega
        obtain ⟨x, hx⟩ := getSome (l := c) (i := k) (by omega)
        obtain ⟨y, hy⟩ := getSome (l := c) (i := k + 1) (by omega)
        have e1 : IntKind.i64.wrap ((k : Int) + 1) = ((k + 1 : Nat) : Int) := by rw [w64 (by omega) (by omega)]; omega
        have hb1 : k < n := by omega
        have hb2 : k + 1 < n := by omega
        refine AS.skip ?_
        refine AS.seq ?_
        refine AS.block ?_
        refine SA.start1 TT10.mixed rfl ?_
        refine SA.rd 0 [0] rfl (fun env rest next => AS.move rfl rfl rfl rfl next) ?_
        refine SA.rd 1 [13] rfl (fun env rest next => AS.move rfl rfl rfl rfl next) ?_
        refine SA.rd 2 [0] rfl (fun env rest next => AS.move rfl rfl rfl rfl next) ?_
        refine SA.rd 3 [13] rfl (fun env rest next => AS.move rfl rfl rfl rfl next) ?_
        refine SA.rd 4 [64] rfl (fun env rest next => AS.bin rfl rfl rfl rfl rfl (BinR.add e1) next) ?_
        refine SA.rd 5 [0] rfl (fun env rest next => AS.move rfl rfl rfl rfl next) ?_
        refine SA.rd 6 [13] rfl (fun env rest next => AS.move rfl rfl rfl rfl next) ?_
        refine SA.rd 7 [67] rfl (fun env rest next => AS.bin rfl rfl rfl rfl rfl (BinR.add e1) next) ?_
        refine SA.rd 8 [66, 68] rfl (fun env rest next => AS.rowAddr rfl rfl rfl rfl rfl TT10.sl48 (k + 1) rfl hb2 next) ?_
        refine SA.rd 9 [69] rfl (fun env rest next => AS.loadAt (enc := encObj) rfl rfl rfl rfl TT10.ty38 encObj_sz (fun _ => rfl) hy next) ?_
        refine SA.rd 10 [0] rfl (fun env rest next => AS.move rfl rfl rfl rfl next) ?_
        refine SA.rd 11 [13] rfl (fun env rest next => AS.move rfl rfl rfl rfl next) ?_
        refine SA.rd 12 [71, 72] rfl (fun env rest next => AS.rowAddr rfl rfl rfl rfl rfl TT10.sl48 k rfl hb1 next) ?_
        refine SA.rd 13 [73] rfl (fun env rest next => AS.loadAt (enc := encObj) rfl rfl rfl rfl TT10.ty38 encObj_sz (fun _ => rfl) hx next) ?_
        refine SA.rd 14 [61, 62] rfl (fun env rest next => AS.rowAddr rfl rfl rfl rfl rfl TT10.sl48 k rfl hb1 next) ?_
        refine SA.chg 15 [70, 75] rfl rfl rfl rfl (fun env rest next => AS.storeAt (enc := encObj) (a := y) rfl rfl rfl rfl rfl encObj_flat TT10.ty38 encObj_sz (by omega) next) ⟨trivial, ⟨trivial, ⟨trivial, ⟨trivial, ⟨trivial, ⟨trivial, ⟨trivial, ⟨trivial, ⟨trivial, ⟨trivial, ⟨(fun H _ env rest next => AS.bin rfl rfl rfl rfl rfl (BinR.add e1) next), ⟨(fun H _ env rest next => AS.move rfl rfl rfl rfl next), ⟨(fun H _ env rest next => AS.move rfl rfl rfl rfl next), ⟨trivial, ⟨trivial, trivial⟩⟩⟩⟩⟩⟩⟩⟩⟩⟩⟩⟩⟩⟩⟩ ?_
        refine SA.rdA 16 [63, 65] rfl (fun H env rest next => AS.rowAddr rfl rfl rfl rfl rfl TT10.sl48 (k + 1) rfl hb2 next) ?_
        refine SA.chg 17 [74, 76] rfl rfl rfl rfl (fun env rest next => AS.storeAt (enc := encObj) (a := x) rfl rfl rfl rfl rfl encObj_flat TT10.ty38 encObj_sz (by rw [List.length_set]; omega) next) ⟨trivial, ⟨trivial, ⟨trivial, ⟨trivial, ⟨trivial, ⟨trivial, ⟨trivial, ⟨trivial, ⟨trivial, ⟨trivial, ⟨trivial, ⟨trivial, ⟨trivial, ⟨trivial, ⟨trivial, ⟨trivial, ⟨trivial, trivial⟩⟩⟩⟩⟩⟩⟩⟩⟩⟩⟩⟩⟩⟩⟩⟩⟩ ?_
        refine SA.done rfl rfl rfl ?_
        refine AS.inBlock ?_
        refine AS.region rfl ?_
        refine AS.move rfl rfl rfl rfl ?_
        refine AS.bin rfl rfl rfl rfl rfl (BinR.add e1) ?_
        refine AS.assign rfl rfl rfl rfl ?_
        refine AS.opsEnd ?_
        exact AS.nextI (l1_ih (k + 1, sw c k (k + 1) x y) ⟨by dsimp only; omega, by dsimp only; omega, by rw [sw_len]; exact hlen, (sw_perm hx hy).trans hp, up_step hs k1 hx hy⟩ (by dsimp only; omega)) [] (.cons rfl (.cons rfl (.cons rfl (.nil)))) rfl
      · have hk3 : k = i - 1 := by simp only [decide_eq_false_iff_not] at hc3; omega
        subst hk3
        refine AS.exit rfl ?_
        refine AS.retW Try.func147 rfl (.nil) ?_
        exact RWk.drop [] rfl ⟨c, up_within (i := i - 1) (by omega) (by omega) hlen hp hs, up_end e0 ⟨i1, i3⟩ s2 (by omega) i4 i5 hs, rfl⟩
  · have e0 : m ≠ lo + 1 := by simp only [decide_eq_false_iff_not] at hc0; omega
    refine AS.skip ?_
    refine AS.seq ?_
    refine AS.seq ?_
    refine AS.region rfl ?_
    refine AS.move rfl rfl rfl rfl ?_
    refine AS.move rfl rfl rfl rfl ?_
    refine AS.bin rfl rfl rfl rfl rfl (BinR.sub (c := ((hi - m : Nat) : Int)) (by rw [w64 (by omega) (by omega)]; omega)) ?_
    refine AS.bin rfl rfl rfl rfl rfl (BinR.eql rfl) ?_
    refine AS.opsEnd ?_
    refine AS.cond rfl (fun hc4 => ?_) (fun hc4 => ?_)
    · have e4 : hi = m + 1 := by simp only [decide_eq_true_eq] at hc4; omega
      refine AS.seq ?_
      refine AS.region rfl ?_
      refine AS.move rfl rfl rfl rfl ?_
      refine AS.assign rfl rfl rfl rfl ?_
      refine AS.opsEnd ?_
      refine AS.seq ?_
      refine AS.region rfl ?_
      refine AS.move rfl rfl rfl rfl ?_
      refine AS.assign rfl rfl rfl rfl ?_
      refine AS.opsEnd ?_
      refine AS.seq ?_
      refine AS.block ?_
      refine AS.loopI (α := Nat × Nat) (fun s => lo ≤ s.1 ∧ s.1 ≤ s.2 ∧ s.2 ≤ m ∧ (s.1 = lo ∨ ∃ x y, l[m]? = some x ∧ l[s.1 - 1]? = some y ∧ keyLess x.key y.key = false) ∧ (s.2 = m ∨ ∃ x y, l[m]? = some x ∧ l[s.2]? = some y ∧ keyLess x.key y.key = true)) (fun s => s.2 - s.1) (fun s => [(14, .int .i64 s.1), (15, .int .i64 s.2)]) [(0, _), (2, _), (4, _)] (fun s => (b, .row (rowOf encObj l rs) 38) :: H) (lo, m) ⟨Nat.le_refl _, by dsimp only; omega, Nat.le_refl _, .inl rfl, .inl rfl⟩ (.cons rfl (.cons rfl (.cons rfl (.cons rfl (.cons rfl (.nil)))))) rfl (fun s hI l2_ih => ?_)
      obtain ⟨i, j⟩ := s
      dsimp only at hI l2_ih ⊢
      obtain ⟨i1, i2, i3, i4, i5⟩ := hI
      refine AS.seq ?_
      refine AS.seq ?_
      refine AS.region rfl ?_
      refine AS.move rfl rfl rfl rfl ?_
      refine AS.move rfl rfl rfl rfl ?_
      refine AS.bin rfl rfl rfl rfl rfl (BinR.lss rfl) ?_
      refine AS.opsEnd ?_
      refine AS.cond rfl (fun hc5 => ?_) (fun hc5 => ?_)
      · have hij : i < j := by simp only [decide_eq_true_eq] at hc5; omega
        have hu0 : IntKind.i64.wrap ((i : Int) + (j : Int)) = ((i + j : Nat) : Int) := by rw [w64 (by omega) (by omega)]; omega
        have hu1 : IntKind.u64.wrap ((i + j : Nat) : Int) = ((i + j : Nat) : Int) := IntWalk.u64_in _ ⟨by omega, by omega⟩
        have hu2 : ((i + j : Nat) : Int) / 2 ^ (1 : Int).toNat = (((i + j) / 2 : Nat) : Int) := by show _ / (2 ^ 1 : Int) = _; omega
        have hu3 : IntKind.i64.wrap (((i + j) / 2 : Nat) : Int) = (((i + j) / 2 : Nat) : Int) := w64 (by omega) (by omega)
        obtain ⟨x, hx⟩ := getSome (l := l) (i := m) (by omega)
        obtain ⟨y, hy⟩ := getSome (l := l) (i := (i + j) / 2) (by omega)
        have hb1 : (i + j) / 2 < n := by omega
        have hb2 : m < n := by omega
        refine AS.skip ?_
        refine AS.block ?_
        refine AS.seq ?_
        refine AS.region rfl ?_
        refine AS.move rfl rfl rfl rfl ?_
        refine AS.move rfl rfl rfl rfl ?_
        refine AS.bin rfl rfl rfl rfl rfl (BinR.add hu0) ?_
        refine AS.convInt rfl rfl rfl rfl TT10.u3 TT10.u180 hu1 ?_
        refine AS.bin rfl rfl rfl rfl rfl (BinR.shr (by decide) (by decide) hu2) ?_
        refine AS.convInt rfl rfl rfl rfl TT10.u180 TT10.u3 hu3 ?_
        refine AS.assign rfl rfl rfl rfl ?_
        refine AS.opsEnd ?_
        refine AS.seq ?_
        refine SA.start1 TT10.mixed rfl ?_
        refine SA.rd 0 [4] rfl (fun env rest next => AS.move rfl rfl rfl rfl next) ?_
        refine SA.rd 1 [0] rfl (fun env rest next => AS.move rfl rfl rfl rfl next) ?_
        refine SA.rd 2 [2] rfl (fun env rest next => AS.move rfl rfl rfl rfl next) ?_
        refine SA.rd 3 [93, 94] rfl (fun env rest next => AS.rowAddr rfl rfl rfl rfl rfl TT10.sl48 m rfl hb2 next) ?_
        refine SA.rd 4 [95] rfl (fun env rest next => AS.loadAt (enc := encObj) rfl rfl rfl rfl TT10.ty38 encObj_sz (fun _ => rfl) hx next) ?_
        refine SA.rd 5 [0] rfl (fun env rest next => AS.move rfl rfl rfl rfl next) ?_
        refine SA.rd 6 [16] rfl (fun env rest next => AS.move rfl rfl rfl rfl next) ?_
        refine SA.rd 7 [97, 98] rfl (fun env rest next => AS.rowAddr rfl rfl rfl rfl rfl TT10.sl48 ((i + j) / 2) rfl hb1 next) ?_
        refine SA.rd 8 [99] rfl (fun env rest next => AS.loadAt (enc := encObj) rfl rfl rfl rfl TT10.ty38 encObj_sz (fun _ => rfl) hy next) ?_
        refine SA.rd 9 [92, 96, 100] rfl (fun env rest next => AS.callVP rfl rfl rfl rfl rfl TT10.en101 (cmp_spec x y _ (hk _ (List.mem_of_getElem? hx)) (hk _ (List.mem_of_getElem? hy))) next) ?_
        refine SA.rd 10 [101] rfl (fun env rest next => AS.bin rfl rfl rfl rfl rfl (BinR.lss rfl) next) ?_
        refine SA.rd 11 [102] rfl (fun env rest next => AS.not rfl rfl rfl rfl rfl next) ?_
        refine SA.done rfl rfl rfl ?_
        refine AS.cond rfl (fun hc6 => ?_) (fun hc6 => ?_)
        · rw [Bool.not_eq_true'] at hc6
          rw [cmp_lt] at hc6
          refine AS.region rfl ?_
          refine AS.move rfl rfl rfl rfl ?_
          refine AS.bin rfl rfl rfl rfl rfl (BinR.add (c := (((i + j) / 2 + 1 : Nat) : Int)) (by rw [w64 (by omega) (by omega)]; omega)) ?_
          refine AS.assign rfl rfl rfl rfl ?_
          refine AS.opsEnd ?_
          refine AS.inBlock ?_
          exact AS.nextI (l2_ih ((i + j) / 2 + 1, j) ⟨by dsimp only; omega, by dsimp only; omega, i3, .inr ⟨x, y, hx, by dsimp only; rw [Nat.add_sub_cancel]; exact hy, hc6⟩, i5⟩ (by dsimp only; omega)) [] (.cons rfl (.cons rfl (.cons rfl (.cons rfl (.cons rfl (.nil)))))) rfl
        · rw [Bool.not_eq_false'] at hc6
          rw [cmp_lt] at hc6
          refine AS.region rfl ?_
          refine AS.move rfl rfl rfl rfl ?_
          refine AS.assign rfl rfl rfl rfl ?_
          refine AS.opsEnd ?_
          refine AS.inBlock ?_
          exact AS.nextI (l2_ih (i, (i + j) / 2) ⟨i1, by dsimp only; omega, by dsimp only; omega, i4, .inr ⟨x, y, hx, hy, hc6⟩⟩ (by dsimp only; omega)) [] (.cons rfl (.cons rfl (.cons rfl (.cons rfl (.cons rfl (.nil)))))) rfl
      · have hij : i = j := by simp only [decide_eq_false_iff_not] at hc5; omega
        subst hij
        refine AS.exit rfl ?_
        refine AS.seq ?_
        refine AS.seq ?_
        refine AS.region rfl ?_
        refine AS.move rfl rfl rfl rfl ?_
        refine AS.assign rfl rfl rfl rfl ?_
        refine AS.opsEnd ?_
        refine AS.block ?_
        refine AS.loopI (α := Nat × List Object) (fun s => i ≤ s.1 ∧ s.1 ≤ m ∧ s.2.length = l.length ∧ s.2.Perm l ∧ ∀ p, s.2[p]? = l[downAt m s.1 p]?) (fun s => s.1) (fun s => [(17, .int .i64 s.1)]) [(0, _), (14, _)] (fun s => (b, .row (rowOf encObj s.2 rs) 38) :: H) (m, l) ⟨i3, Nat.le_refl _, rfl, .refl _, down_start l m⟩ (.cons rfl (.cons rfl (.cons rfl (.nil)))) rfl (fun s hI l3_ih => ?_)
        obtain ⟨k, c⟩ := s
        dsimp only at hI l3_ih ⊢
        obtain ⟨k1, k2, hlen, hp, hs⟩ := hI
        refine AS.seq ?_
        refine AS.seq ?_
        refine AS.region rfl ?_
        refine AS.move rfl rfl rfl rfl ?_
        refine AS.move rfl rfl rfl rfl ?_
        refine AS.bin rfl rfl rfl rfl rfl (BinR.gtr rfl) ?_
        refine AS.opsEnd ?_
        refine AS.cond rfl (fun hc7 => ?_) (fun hc7 => ?_)
        · have hk3 : i < k := by simp only [decide_eq_true_eq] at hc7; omega
          obtain ⟨x, hx⟩ := getSome (l := c) (i := k) (by omega)
          obtain ⟨y, hy⟩ := getSome (l := c) (i := k - 1) (by omega)
          have e1 : IntKind.i64.wrap ((k : Int) - 1) = ((k - 1 : Nat) : Int) := by rw [w64 (by omega) (by omega)]; omega
          have hb1 : k < n := by omega
          have hb2 : k - 1 < n := by omega
          refine AS.skip ?_
          refine AS.seq ?_
          refine AS.block ?_
          refine SA.start1 TT10.mixed rfl ?_
          refine SA.rd 0 [0] rfl (fun env rest next => AS.move rfl rfl rfl rfl next) ?_
          refine SA.rd 1 [17] rfl (fun env rest next => AS.move rfl rfl rfl rfl next) ?_
          refine SA.rd 2 [0] rfl (fun env rest next => AS.move rfl rfl rfl rfl next) ?_
          refine SA.rd 3 [17] rfl (fun env rest next => AS.move rfl rfl rfl rfl next) ?_
          refine SA.rd 4 [116] rfl (fun env rest next => AS.bin rfl rfl rfl rfl rfl (BinR.sub e1) next) ?_
          refine SA.rd 5 [0] rfl (fun env rest next => AS.move rfl rfl rfl rfl next) ?_
          refine SA.rd 6 [17] rfl (fun env rest next => AS.move rfl rfl rfl rfl next) ?_
          refine SA.rd 7 [119] rfl (fun env rest next => AS.bin rfl rfl rfl rfl rfl (BinR.sub e1) next) ?_
          refine SA.rd 8 [118, 120] rfl (fun env rest next => AS.rowAddr rfl rfl rfl rfl rfl TT10.sl48 (k - 1) rfl hb2 next) ?_
          refine SA.rd 9 [121] rfl (fun env rest next => AS.loadAt (enc := encObj) rfl rfl rfl rfl TT10.ty38 encObj_sz (fun _ => rfl) hy next) ?_
          refine SA.rd 10 [0] rfl (fun env rest next => AS.move rfl rfl rfl rfl next) ?_
          refine SA.rd 11 [17] rfl (fun env rest next => AS.move rfl rfl rfl rfl next) ?_
          refine SA.rd 12 [123, 124] rfl (fun env rest next => AS.rowAddr rfl rfl rfl rfl rfl TT10.sl48 k rfl hb1 next) ?_
          refine SA.rd 13 [125] rfl (fun env rest next => AS.loadAt (enc := encObj) rfl rfl rfl rfl TT10.ty38 encObj_sz (fun _ => rfl) hx next) ?_
          refine SA.rd 14 [113, 114] rfl (fun env rest next => AS.rowAddr rfl rfl rfl rfl rfl TT10.sl48 k rfl hb1 next) ?_
          refine SA.chg 15 [122, 127] rfl rfl rfl rfl (fun env rest next => AS.storeAt (enc := encObj) (a := y) rfl rfl rfl rfl rfl encObj_flat TT10.ty38 encObj_sz (by omega) next) ⟨trivial, ⟨trivial, ⟨trivial, ⟨trivial, ⟨trivial, ⟨trivial, ⟨trivial, ⟨trivial, ⟨trivial, ⟨trivial, ⟨(fun H _ env rest next => AS.bin rfl rfl rfl rfl rfl (BinR.sub e1) next), ⟨(fun H _ env rest next => AS.move rfl rfl rfl rfl next), ⟨(fun H _ env rest next => AS.move rfl rfl rfl rfl next), ⟨trivial, ⟨trivial, trivial⟩⟩⟩⟩⟩⟩⟩⟩⟩⟩⟩⟩⟩⟩⟩ ?_
          refine SA.rdA 16 [115, 117] rfl (fun H env rest next => AS.rowAddr rfl rfl rfl rfl rfl TT10.sl48 (k - 1) rfl hb2 next) ?_
          refine SA.chg 17 [126, 128] rfl rfl rfl rfl (fun env rest next => AS.storeAt (enc := encObj) (a := x) rfl rfl rfl rfl rfl encObj_flat TT10.ty38 encObj_sz (by rw [List.length_set]; omega) next) ⟨trivial, ⟨trivial, ⟨trivial, ⟨trivial, ⟨trivial, ⟨trivial, ⟨trivial, ⟨trivial, ⟨trivial, ⟨trivial, ⟨trivial, ⟨trivial, ⟨trivial, ⟨trivial, ⟨trivial, ⟨trivial, ⟨trivial, trivial⟩⟩⟩⟩⟩⟩⟩⟩⟩⟩⟩⟩⟩⟩⟩⟩⟩ ?_
          refine SA.done rfl rfl rfl ?_
          refine AS.inBlock ?_
          refine AS.region rfl ?_
          refine AS.move rfl rfl rfl rfl ?_
          refine AS.bin rfl rfl rfl rfl rfl (BinR.sub e1) ?_
          refine AS.assign rfl rfl rfl rfl ?_
          refine AS.opsEnd ?_
          exact AS.nextI (l3_ih (k - 1, sw c k (k - 1) x y) ⟨by dsimp only; omega, by dsimp only; omega, by rw [sw_len]; exact hlen, (sw_perm hx hy).trans hp, down_step hs k2 (by omega) hx hy⟩ (by dsimp only; omega)) [] (.cons rfl (.cons rfl (.cons rfl (.nil)))) rfl
        · have hk3 : k = i := by simp only [decide_eq_false_iff_not] at hc7; omega
          subst hk3
          refine AS.exit rfl ?_
          refine AS.retW Try.func147 rfl (.nil) ?_
          exact RWk.drop [] rfl ⟨c, down_within (i := k) (by omega) (by omega) (by omega) hlen hp hs, down_end e4 ⟨by omega, by omega⟩ s1 (by omega) i4 i5 hs, rfl⟩
    · have e4 : hi ≠ m + 1 := by simp only [decide_eq_false_iff_not] at hc4; omega
      refine AS.skip ?_
      refine AS.seq ?_
      obtain ⟨mid, hmid⟩ : ∃ mid, mid = (lo + hi) / 2 := ⟨_, rfl⟩
      have hu0 : IntKind.i64.wrap ((lo : Int) + (hi : Int)) = ((lo + hi : Nat) : Int) := by rw [w64 (by omega) (by omega)]; omega
      have hu1 : IntKind.u64.wrap ((lo + hi : Nat) : Int) = ((lo + hi : Nat) : Int) := IntWalk.u64_in _ ⟨by omega, by omega⟩
      have hu2 : ((lo + hi : Nat) : Int) / 2 ^ (1 : Int).toNat = ((mid : Nat) : Int) := by show _ / (2 ^ 1 : Int) = _; omega
      have hu3 : IntKind.i64.wrap ((mid : Nat) : Int) = ((mid : Nat) : Int) := w64 (by omega) (by omega)
      refine AS.region rfl ?_
      refine AS.move rfl rfl rfl rfl ?_
      refine AS.move rfl rfl rfl rfl ?_
      refine AS.bin rfl rfl rfl rfl rfl (BinR.add hu0) ?_
      refine AS.convInt rfl rfl rfl rfl TT10.u3 TT10.u180 hu1 ?_
      refine AS.bin rfl rfl rfl rfl rfl (BinR.shr (by decide) (by decide) hu2) ?_
      refine AS.convInt rfl rfl rfl rfl TT10.u180 TT10.u3 hu3 ?_
      refine AS.assign rfl rfl rfl rfl ?_
      refine AS.opsEnd ?_
      refine AS.seq ?_
      refine AS.region rfl ?_
      refine AS.move rfl rfl rfl rfl ?_
      refine AS.move rfl rfl rfl rfl ?_
      refine AS.bin rfl rfl rfl rfl rfl (BinR.add (c := ((mid + m : Nat) : Int)) (by rw [w64 (by omega) (by omega)]; omega)) ?_
      refine AS.assign rfl rfl rfl rfl ?_
      refine AS.opsEnd ?_
      refine AS.seq ?_
      refine AS.region rfl ?_
      refine AS.assign rfl rfl rfl rfl ?_
      refine AS.assign rfl rfl rfl rfl ?_
      refine AS.opsEnd ?_
      refine AS.seq ?_
      refine AS.seq ?_
      refine AS.region rfl ?_
      refine AS.move rfl rfl rfl rfl ?_
      refine AS.move rfl rfl rfl rfl ?_
      refine AS.bin rfl rfl rfl rfl rfl (BinR.gtr rfl) ?_
      refine AS.opsEnd ?_
      refine AS.joinK (α := Nat × Nat) (fun s => (mid < m ∧ s.1 = mid + m - hi ∧ s.2 = mid) ∨ (m ≤ mid ∧ s.1 = lo ∧ s.2 = m)) (fun s => [(20, .int .i64 s.1), (21, .int .i64 s.2)]) [(0, _), (1, _), (2, _), (3, _), (4, _), (18, _), (19, _)] (fun s => (b, .row (rowOf encObj l rs) 38) :: H) (.cons rfl (.cons rfl (.cons rfl (.cons rfl (.cons rfl (.cons rfl (.cons rfl (.nil)))))))) (fun c8_j => ?_) (fun s hlo => ?_)
      · refine AS.cond rfl (fun hc8 => ?_) (fun hc8 => ?_)
        · have e8 : mid < m := by simp only [decide_eq_true_eq] at hc8; omega
          refine AS.seq ?_
          refine AS.region rfl ?_
          refine AS.move rfl rfl rfl rfl ?_
          refine AS.move rfl rfl rfl rfl ?_
          refine AS.bin rfl rfl rfl rfl rfl (BinR.sub (c := ((mid + m - hi : Nat) : Int)) (by rw [w64 (by omega) (by omega)]; omega)) ?_
          refine AS.assign rfl rfl rfl rfl ?_
          refine AS.opsEnd ?_
          refine AS.region rfl ?_
          refine AS.move rfl rfl rfl rfl ?_
          refine AS.assign rfl rfl rfl rfl ?_
          refine AS.opsEnd ?_
          exact AS.nextI (c8_j (mid + m - hi, mid) (.inl ⟨e8, rfl, rfl⟩)) [] (.cons rfl (.cons rfl (.cons rfl (.cons rfl (.cons rfl (.cons rfl (.cons rfl (.cons rfl (.cons rfl (.nil)))))))))) rfl
        · have e8 : m ≤ mid := by simp only [decide_eq_false_iff_not] at hc8; omega
          refine AS.seq ?_
          refine AS.region rfl ?_
          refine AS.move rfl rfl rfl rfl ?_
          refine AS.assign rfl rfl rfl rfl ?_
          refine AS.opsEnd ?_
          refine AS.region rfl ?_
          refine AS.move rfl rfl rfl rfl ?_
          refine AS.assign rfl rfl rfl rfl ?_
          refine AS.opsEnd ?_
          exact AS.nextI (c8_j (lo, m) (.inr ⟨e8, rfl, rfl⟩)) [] (.cons rfl (.cons rfl (.cons rfl (.cons rfl (.cons rfl (.cons rfl (.cons rfl (.cons rfl (.cons rfl (.nil)))))))))) rfl
      · obtain ⟨bl, bh⟩ := s
        dsimp only at hlo ⊢
        refine AS.seq ?_
        refine AS.region rfl ?_
        refine AS.move rfl rfl rfl rfl ?_
        refine AS.bin rfl rfl rfl rfl rfl (BinR.sub (c := ((mid + m - 1 : Nat) : Int)) (by rw [w64 (by omega) (by omega)]; omega)) ?_
        refine AS.assign rfl rfl rfl rfl ?_
        refine AS.opsEnd ?_
        refine AS.seq ?_
        refine AS.block ?_
        refine AS.loopI (α := Nat × Nat) (fun s => Bs l (mid + m - 1) bl bh s.1 s.2) (fun s => s.2 - s.1) (fun s => [(20, .int .i64 s.1), (21, .int .i64 s.2)]) [(0, _), (1, _), (2, _), (3, _), (4, _), (18, _), (19, _), (22, _)] (fun s => (b, .row (rowOf encObj l rs) 38) :: H) (bl, bh) ⟨⟨Nat.le_refl _, by dsimp only; omega, Nat.le_refl _⟩, .inl rfl, .inl rfl⟩ (.cons rfl (.cons rfl (.cons rfl (.cons rfl (.cons rfl (.cons rfl (.cons rfl (.cons rfl (.cons rfl (.cons rfl (.nil))))))))))) rfl (fun s hI l4_ih => ?_)
        obtain ⟨s, r⟩ := s
        dsimp only at hI l4_ih ⊢
        have hle := hI.le
        refine AS.seq ?_
        refine AS.seq ?_
        refine AS.region rfl ?_
        refine AS.move rfl rfl rfl rfl ?_
        refine AS.move rfl rfl rfl rfl ?_
        refine AS.bin rfl rfl rfl rfl rfl (BinR.lss rfl) ?_
        refine AS.opsEnd ?_
        refine AS.cond rfl (fun hc9 => ?_) (fun hc9 => ?_)
        · have hij : s < r := by simp only [decide_eq_true_eq] at hc9; omega
          have hu0 : IntKind.i64.wrap ((s : Int) + (r : Int)) = ((s + r : Nat) : Int) := by rw [w64 (by omega) (by omega)]; omega
          have hu1 : IntKind.u64.wrap ((s + r : Nat) : Int) = ((s + r : Nat) : Int) := IntWalk.u64_in _ ⟨by omega, by omega⟩
          have hu2 : ((s + r : Nat) : Int) / 2 ^ (1 : Int).toNat = (((s + r) / 2 : Nat) : Int) := by show _ / (2 ^ 1 : Int) = _; omega
          have hu3 : IntKind.i64.wrap (((s + r) / 2 : Nat) : Int) = (((s + r) / 2 : Nat) : Int) := w64 (by omega) (by omega)
          have hb1 : mid + m - 1 - (s + r) / 2 < n := by omega
          have hb2 : (s + r) / 2 < n := by omega
          obtain ⟨x, hx⟩ := getSome (l := l) (i := mid + m - 1 - (s + r) / 2) (by omega)
          obtain ⟨y, hy⟩ := getSome (l := l) (i := (s + r) / 2) (by omega)
          have e5 : IntKind.i64.wrap (((mid + m - 1 : Nat) : Int) - (((s + r) / 2 : Nat) : Int)) = ((mid + m - 1 - (s + r) / 2 : Nat) : Int) := by rw [w64 (by omega) (by omega)]; omega
          refine AS.skip ?_
          refine AS.block ?_
          refine AS.seq ?_
          refine AS.region rfl ?_
          refine AS.move rfl rfl rfl rfl ?_
          refine AS.move rfl rfl rfl rfl ?_
          refine AS.bin rfl rfl rfl rfl rfl (BinR.add hu0) ?_
          refine AS.convInt rfl rfl rfl rfl TT10.u3 TT10.u180 hu1 ?_
          refine AS.bin rfl rfl rfl rfl rfl (BinR.shr (by decide) (by decide) hu2) ?_
          refine AS.convInt rfl rfl rfl rfl TT10.u180 TT10.u3 hu3 ?_
          refine AS.assign rfl rfl rfl rfl ?_
          refine AS.opsEnd ?_
          refine AS.seq ?_
          refine SA.start1 TT10.mixed rfl ?_
          refine SA.rd 0 [4] rfl (fun env rest next => AS.move rfl rfl rfl rfl next) ?_
          refine SA.rd 1 [0] rfl (fun env rest next => AS.move rfl rfl rfl rfl next) ?_
          refine SA.rd 2 [22] rfl (fun env rest next => AS.move rfl rfl rfl rfl next) ?_
          refine SA.rd 3 [23] rfl (fun env rest next => AS.move rfl rfl rfl rfl next) ?_
          refine SA.rd 4 [160, 161] rfl (fun env rest next => AS.bin rfl rfl rfl rfl rfl (BinR.sub e5) next) ?_
          refine SA.rd 5 [159, 162] rfl (fun env rest next => AS.rowAddr rfl rfl rfl rfl rfl TT10.sl48 (mid + m - 1 - (s + r) / 2) rfl hb1 next) ?_
          refine SA.rd 6 [163] rfl (fun env rest next => AS.loadAt (enc := encObj) rfl rfl rfl rfl TT10.ty38 encObj_sz (fun _ => rfl) hx next) ?_
          refine SA.rd 7 [0] rfl (fun env rest next => AS.move rfl rfl rfl rfl next) ?_
          refine SA.rd 8 [23] rfl (fun env rest next => AS.move rfl rfl rfl rfl next) ?_
          refine SA.rd 9 [165, 166] rfl (fun env rest next => AS.rowAddr rfl rfl rfl rfl rfl TT10.sl48 ((s + r) / 2) rfl hb2 next) ?_
          refine SA.rd 10 [167] rfl (fun env rest next => AS.loadAt (enc := encObj) rfl rfl rfl rfl TT10.ty38 encObj_sz (fun _ => rfl) hy next) ?_
          refine SA.rd 11 [158, 164, 168] rfl (fun env rest next => AS.callVP rfl rfl rfl rfl rfl TT10.en101 (cmp_spec x y _ (hk _ (List.mem_of_getElem? hx)) (hk _ (List.mem_of_getElem? hy))) next) ?_
          refine SA.rd 12 [169] rfl (fun env rest next => AS.bin rfl rfl rfl rfl rfl (BinR.lss rfl) next) ?_
          refine SA.rd 13 [170] rfl (fun env rest next => AS.not rfl rfl rfl rfl rfl next) ?_
          refine SA.done rfl rfl rfl ?_
          refine AS.cond rfl (fun hc10 => ?_) (fun hc10 => ?_)
          · rw [Bool.not_eq_true'] at hc10
            rw [cmp_lt] at hc10
            refine AS.region rfl ?_
            refine AS.move rfl rfl rfl rfl ?_
            refine AS.bin rfl rfl rfl rfl rfl (BinR.add (c := (((s + r) / 2 + 1 : Nat) : Int)) (by rw [w64 (by omega) (by omega)]; omega)) ?_
            refine AS.assign rfl rfl rfl rfl ?_
            refine AS.opsEnd ?_
            refine AS.inBlock ?_
            exact AS.nextI (l4_ih ((s + r) / 2 + 1, r) (bs_left hI hij hx hy hc10) (by dsimp only; omega)) [] (.cons rfl (.cons rfl (.cons rfl (.cons rfl (.cons rfl (.cons rfl (.cons rfl (.cons rfl (.cons rfl (.cons rfl (.nil))))))))))) rfl
          · rw [Bool.not_eq_false'] at hc10
            rw [cmp_lt] at hc10
            refine AS.region rfl ?_
            refine AS.move rfl rfl rfl rfl ?_
            refine AS.assign rfl rfl rfl rfl ?_
            refine AS.opsEnd ?_
            refine AS.inBlock ?_
            exact AS.nextI (l4_ih (s, (s + r) / 2) (bs_right hI hij hx hy hc10) (by dsimp only; omega)) [] (.cons rfl (.cons rfl (.cons rfl (.cons rfl (.cons rfl (.cons rfl (.cons rfl (.cons rfl (.cons rfl (.cons rfl (.nil))))))))))) rfl
        · have hij : s = r := by simp only [decide_eq_false_iff_not] at hc9; omega
          subst hij
          refine AS.exit rfl ?_
          refine AS.seq ?_
          refine AS.region rfl ?_
          refine AS.move rfl rfl rfl rfl ?_
          refine AS.move rfl rfl rfl rfl ?_
          refine AS.bin rfl rfl rfl rfl rfl (BinR.sub (c := ((mid + m - s : Nat) : Int)) (by rw [w64 (by omega) (by omega)]; omega)) ?_
          refine AS.assign rfl rfl rfl rfl ?_
          refine AS.opsEnd ?_
          refine AS.seq ?_
          refine AS.seq ?_
          refine AS.region rfl ?_
          refine AS.move rfl rfl rfl rfl ?_
          refine AS.move rfl rfl rfl rfl ?_
          refine AS.bin rfl rfl rfl rfl rfl (BinR.lss rfl) ?_
          refine AS.move rfl rfl rfl rfl ?_
          refine AS.splitT 181 rfl (fun g181 => ?_) (fun g181 => ?_)
          · refine AS.move rfl rfl rfl rfl ?_
            refine AS.move rfl rfl rfl rfl ?_
            refine AS.bin rfl rfl rfl rfl rfl (BinR.lss rfl) ?_
            refine AS.pick rfl rfl rfl rfl rfl ?_
            refine AS.opsEnd ?_
            refine AS.cond rfl (fun hc11 => ?_) (fun hc11 => ?_)
            · refine AS.region rfl ?_
              refine AS.move rfl rfl rfl rfl ?_
              refine AS.move rfl rfl rfl rfl ?_
              refine AS.move rfl rfl rfl rfl ?_
              refine AS.move rfl rfl rfl rfl ?_
              refine AS.move rfl rfl rfl rfl ?_
              refine AS.call rfl rfl rfl rfl TT10.en166 (rotate_spec l rs b n cap s m (mid + m - s) _ H hn (by omega) hb (by simp only [decide_eq_true_eq] at g181; omega) (by simp only [decide_eq_true_eq] at hc11; omega)) ?_
              rintro _ _ ⟨c1, d1, d2, d3, rfl⟩
              have q1 : s < m := by simp only [decide_eq_true_eq] at g181; omega
              have q2 : m < mid + m - s := by simp only [decide_eq_true_eq] at hc11; omega
              have hH := halves (b := hi) (by omega) h1 h2 hmid s1 s2 hlo hI (.inl ⟨q1, q2, d3⟩)
              have hw : Within l c1 lo hi := (rot_within q1 q2 d1 d2 d3).mono (by omega) (by omega)
              have hk1 : ∀ o ∈ c1, keyFits o.key := fun o ho => hk o (d2.mem_iff.1 ho)
              have hn1 : n = c1.length := by omega
              refine AS.opsEnd ?_
              refine AS.seq ?_
              refine AS.seq ?_
              refine AS.region rfl ?_
              refine AS.move rfl rfl rfl rfl ?_
              refine AS.move rfl rfl rfl rfl ?_
              refine AS.bin rfl rfl rfl rfl rfl (BinR.lss rfl) ?_
              refine AS.move rfl rfl rfl rfl ?_
              refine AS.splitT 195 rfl (fun g195 => ?_) (fun g195 => ?_)
              · refine AS.move rfl rfl rfl rfl ?_
                refine AS.move rfl rfl rfl rfl ?_
                refine AS.bin rfl rfl rfl rfl rfl (BinR.lss rfl) ?_
                refine AS.pick rfl rfl rfl rfl rfl ?_
                refine AS.opsEnd ?_
                refine AS.cond rfl (fun hc12 => ?_) (fun hc12 => ?_)
                · refine AS.region rfl ?_
                  refine AS.move rfl rfl rfl rfl ?_
                  refine AS.move rfl rfl rfl rfl ?_
                  refine AS.move rfl rfl rfl rfl ?_
                  refine AS.move rfl rfl rfl rfl ?_
                  refine AS.move rfl rfl rfl rfl ?_
                  refine AS.call rfl rfl rfl rfl TT10.en147 (ih c1 rs b n cap lo s mid H hk1 hn1 (by omega) hb (by simp only [decide_eq_true_eq] at g195; omega) (by simp only [decide_eq_true_eq] at hc12; omega) hH.l1 hH.r1 (by omega)) ?_
                  rintro _ _ ⟨c2, w1, t1, rfl⟩
                  have hk2 : ∀ o ∈ c2, keyFits o.key := fun o ho => hk1 o (w1.perm.mem_iff.1 ho)
                  have hn2 : n = c2.length := by rw [w1.len]; exact hn1
                  refine AS.opsEnd ?_
                  refine AS.seq ?_
                  refine AS.region rfl ?_
                  refine AS.move rfl rfl rfl rfl ?_
                  refine AS.move rfl rfl rfl rfl ?_
                  refine AS.bin rfl rfl rfl rfl rfl (BinR.lss rfl) ?_
                  refine AS.move rfl rfl rfl rfl ?_
                  refine AS.splitT 209 rfl (fun g209 => ?_) (fun g209 => ?_)
                  · refine AS.move rfl rfl rfl rfl ?_
                    refine AS.move rfl rfl rfl rfl ?_
                    refine AS.bin rfl rfl rfl rfl rfl (BinR.lss rfl) ?_
                    refine AS.pick rfl rfl rfl rfl rfl ?_
                    refine AS.opsEnd ?_
                    refine AS.cond rfl (fun hc13 => ?_) (fun hc13 => ?_)
                    · refine AS.region rfl ?_
                      refine AS.move rfl rfl rfl rfl ?_
                      refine AS.move rfl rfl rfl rfl ?_
                      refine AS.move rfl rfl rfl rfl ?_
                      refine AS.move rfl rfl rfl rfl ?_
                      refine AS.move rfl rfl rfl rfl ?_
                      refine AS.call rfl rfl rfl rfl TT10.en147 (ih c2 rs b n cap mid (mid + m - s) hi H hk2 hn2 (by omega) hb (by simp only [decide_eq_true_eq] at g209; omega) (by simp only [decide_eq_true_eq] at hc13; omega) (SortedR.out w1 hH.l2 (.inr (Nat.le_refl _))) (SortedR.out w1 hH.r2 (.inr (by omega))) (by omega)) ?_
                      rintro _ _ ⟨c3, w2, t2, rfl⟩
                      refine AS.opsEnd ?_
                      refine AS.rwk ?_
                      refine AS.end_ Try.func147 rfl (.nil) ?_
                      exact RWk.drop [] rfl ⟨c3, hw.trans ((w1.mono (Nat.le_refl _) (by omega)).trans (w2.mono (by omega) (Nat.le_refl _))), halves_end hH ⟨by omega, by omega⟩ w1 t1 w2 t2, rfl⟩
                    · have w2 : Within c2 c2 mid hi := .refl _ _ _
                      have t2 : SortedR c2 mid hi := by
                        simp only [decide_eq_true_eq, decide_eq_false_iff_not] at g209 hc13
                        by_cases hq : mid < mid + m - s
                        · have : mid + m - s = hi := by omega
                          have h3 := (SortedR.out w1 hH.l2 (.inr (Nat.le_refl _)))
                          rw [this] at h3; exact h3
                        · have : mid + m - s = mid := by omega
                          have h3 := (SortedR.out w1 hH.r2 (.inr (by omega)))
                          rw [this] at h3; exact h3
                      refine AS.skip ?_
                      refine AS.rwk ?_
                      refine AS.end_ Try.func147 rfl (.nil) ?_
                      exact RWk.drop [] rfl ⟨c2, hw.trans ((w1.mono (Nat.le_refl _) (by omega)).trans (w2.mono (by omega) (Nat.le_refl _))), halves_end hH ⟨by omega, by omega⟩ w1 t1 w2 t2, rfl⟩
                  · refine AS.pass rfl rfl rfl ?_
                    refine AS.pass rfl rfl rfl ?_
                    refine AS.pass rfl rfl rfl ?_
                    refine AS.pick rfl rfl rfl rfl rfl ?_
                    refine AS.opsEnd ?_
                    have w2 : Within c2 c2 mid hi := .refl _ _ _
                    have t2 : SortedR c2 mid hi := by
                      simp only [decide_eq_false_iff_not] at g209
                      have : mid + m - s = mid := by omega
                      have h3 := (SortedR.out w1 hH.r2 (.inr (by omega)))
                      rw [this] at h3; exact h3
                    refine AS.condF rfl ?_
                    refine AS.skip ?_
                    refine AS.rwk ?_
                    refine AS.end_ Try.func147 rfl (.nil) ?_
                    exact RWk.drop [] rfl ⟨c2, hw.trans ((w1.mono (Nat.le_refl _) (by omega)).trans (w2.mono (by omega) (Nat.le_refl _))), halves_end hH ⟨by omega, by omega⟩ w1 t1 w2 t2, rfl⟩
                · have w1 : Within c1 c1 lo mid := .refl _ _ _
                  have t1 : SortedR c1 lo mid := by
                    simp only [decide_eq_true_eq, decide_eq_false_iff_not] at g195 hc12
                    by_cases hq : lo < s
                    · have : s = mid := by omega
                      rw [← this]; exact hH.l1
                    · have : s = lo := by omega
                      have h3 := hH.r1
                      rw [this] at h3; exact h3
                  have hk2 := hk1
                  have hn2 := hn1
                  refine AS.skip ?_
                  refine AS.seq ?_
                  refine AS.region rfl ?_
                  refine AS.move rfl rfl rfl rfl ?_
                  refine AS.move rfl rfl rfl rfl ?_
                  refine AS.bin rfl rfl rfl rfl rfl (BinR.lss rfl) ?_
                  refine AS.move rfl rfl rfl rfl ?_
                  refine AS.splitT 209 rfl (fun g209 => ?_) (fun g209 => ?_)
                  · refine AS.move rfl rfl rfl rfl ?_
                    refine AS.move rfl rfl rfl rfl ?_
                    refine AS.bin rfl rfl rfl rfl rfl (BinR.lss rfl) ?_
                    refine AS.pick rfl rfl rfl rfl rfl ?_
                    refine AS.opsEnd ?_
                    refine AS.cond rfl (fun hc13 => ?_) (fun hc13 => ?_)
                    · refine AS.region rfl ?_
                      refine AS.move rfl rfl rfl rfl ?_
                      refine AS.move rfl rfl rfl rfl ?_
                      refine AS.move rfl rfl rfl rfl ?_
                      refine AS.move rfl rfl rfl rfl ?_
                      refine AS.move rfl rfl rfl rfl ?_
                      refine AS.call rfl rfl rfl rfl TT10.en147 (ih c1 rs b n cap mid (mid + m - s) hi H hk2 hn2 (by omega) hb (by simp only [decide_eq_true_eq] at g209; omega) (by simp only [decide_eq_true_eq] at hc13; omega) (SortedR.out w1 hH.l2 (.inr (Nat.le_refl _))) (SortedR.out w1 hH.r2 (.inr (by omega))) (by omega)) ?_
                      rintro _ _ ⟨c3, w2, t2, rfl⟩
                      refine AS.opsEnd ?_
                      refine AS.rwk ?_
                      refine AS.end_ Try.func147 rfl (.nil) ?_
                      exact RWk.drop [] rfl ⟨c3, hw.trans ((w1.mono (Nat.le_refl _) (by omega)).trans (w2.mono (by omega) (Nat.le_refl _))), halves_end hH ⟨by omega, by omega⟩ w1 t1 w2 t2, rfl⟩
                    · have w2 : Within c1 c1 mid hi := .refl _ _ _
                      have t2 : SortedR c1 mid hi := by
                        simp only [decide_eq_true_eq, decide_eq_false_iff_not] at g209 hc13
                        by_cases hq : mid < mid + m - s
                        · have : mid + m - s = hi := by omega
                          have h3 := (SortedR.out w1 hH.l2 (.inr (Nat.le_refl _)))
                          rw [this] at h3; exact h3
                        · have : mid + m - s = mid := by omega
                          have h3 := (SortedR.out w1 hH.r2 (.inr (by omega)))
                          rw [this] at h3; exact h3
                      refine AS.skip ?_
                      refine AS.rwk ?_
                      refine AS.end_ Try.func147 rfl (.nil) ?_
                      exact RWk.drop [] rfl ⟨c1, hw.trans ((w1.mono (Nat.le_refl _) (by omega)).trans (w2.mono (by omega) (Nat.le_refl _))), halves_end hH ⟨by omega, by omega⟩ w1 t1 w2 t2, rfl⟩
                  · refine AS.pass rfl rfl rfl ?_
                    refine AS.pass rfl rfl rfl ?_
                    refine AS.pass rfl rfl rfl ?_
                    refine AS.pick rfl rfl rfl rfl rfl ?_
                    refine AS.opsEnd ?_
                    have w2 : Within c1 c1 mid hi := .refl _ _ _
                    have t2 : SortedR c1 mid hi := by
                      simp only [decide_eq_false_iff_not] at g209
                      have : mid + m - s = mid := by omega
                      have h3 := (SortedR.out w1 hH.r2 (.inr (by omega)))
                      rw [this] at h3; exact h3
                    refine AS.condF rfl ?_
                    refine AS.skip ?_
                    refine AS.rwk ?_
                    refine AS.end_ Try.func147 rfl (.nil) ?_
                    exact RWk.drop [] rfl ⟨c1, hw.trans ((w1.mono (Nat.le_refl _) (by omega)).trans (w2.mono (by omega) (Nat.le_refl _))), halves_end hH ⟨by omega, by omega⟩ w1 t1 w2 t2, rfl⟩
              · refine AS.pass rfl rfl rfl ?_
                refine AS.pass rfl rfl rfl ?_
                refine AS.pass rfl rfl rfl ?_
                refine AS.pick rfl rfl rfl rfl rfl ?_
                refine AS.opsEnd ?_
                have w1 : Within c1 c1 lo mid := .refl _ _ _
                have t1 : SortedR c1 lo mid := by
                  simp only [decide_eq_true_eq, decide_eq_false_iff_not] at g195
                  have : s = lo := by omega
                  have h3 := hH.r1
                  rw [this] at h3; exact h3
                have hk2 := hk1
                have hn2 := hn1
                refine AS.condF rfl ?_
                refine AS.skip ?_
                refine AS.seq ?_
                refine AS.region rfl ?_
                refine AS.move rfl rfl rfl rfl ?_
                refine AS.move rfl rfl rfl rfl ?_
                refine AS.bin rfl rfl rfl rfl rfl (BinR.lss rfl) ?_
                refine AS.move rfl rfl rfl rfl ?_
                refine AS.splitT 209 rfl (fun g209 => ?_) (fun g209 => ?_)
                · refine AS.move rfl rfl rfl rfl ?_
                  refine AS.move rfl rfl rfl rfl ?_
                  refine AS.bin rfl rfl rfl rfl rfl (BinR.lss rfl) ?_
                  refine AS.pick rfl rfl rfl rfl rfl ?_
                  refine AS.opsEnd ?_
                  refine AS.cond rfl (fun hc13 => ?_) (fun hc13 => ?_)
                  · refine AS.region rfl ?_
                    refine AS.move rfl rfl rfl rfl ?_
                    refine AS.move rfl rfl rfl rfl ?_
                    refine AS.move rfl rfl rfl rfl ?_
                    refine AS.move rfl rfl rfl rfl ?_
                    refine AS.move rfl rfl rfl rfl ?_
                    refine AS.call rfl rfl rfl rfl TT10.en147 (ih c1 rs b n cap mid (mid + m - s) hi H hk2 hn2 (by omega) hb (by simp only [decide_eq_true_eq] at g209; omega) (by simp only [decide_eq_true_eq] at hc13; omega) (SortedR.out w1 hH.l2 (.inr (Nat.le_refl _))) (SortedR.out w1 hH.r2 (.inr (by omega))) (by omega)) ?_
                    rintro _ _ ⟨c3, w2, t2, rfl⟩
                    refine AS.opsEnd ?_
                    refine AS.rwk ?_
                    refine AS.end_ Try.func147 rfl (.nil) ?_
                    exact RWk.drop [] rfl ⟨c3, hw.trans ((w1.mono (Nat.le_refl _) (by omega)).trans (w2.mono (by omega) (Nat.le_refl _))), halves_end hH ⟨by omega, by omega⟩ w1 t1 w2 t2, rfl⟩
                  · have w2 : Within c1 c1 mid hi := .refl _ _ _
                    have t2 : SortedR c1 mid hi := by
                      simp only [decide_eq_true_eq, decide_eq_false_iff_not] at g209 hc13
                      by_cases hq : mid < mid + m - s
                      · have : mid + m - s = hi := by omega
                        have h3 := (SortedR.out w1 hH.l2 (.inr (Nat.le_refl _)))
                        rw [this] at h3; exact h3
                      · have : mid + m - s = mid := by omega
                        have h3 := (SortedR.out w1 hH.r2 (.inr (by omega)))
                        rw [this] at h3; exact h3
                    refine AS.skip ?_
                    refine AS.rwk ?_
                    refine AS.end_ Try.func147 rfl (.nil) ?_
                    exact RWk.drop [] rfl ⟨c1, hw.trans ((w1.mono (Nat.le_refl _) (by omega)).trans (w2.mono (by omega) (Nat.le_refl _))), halves_end hH ⟨by omega, by omega⟩ w1 t1 w2 t2, rfl⟩
                · refine AS.pass rfl rfl rfl ?_
                  refine AS.pass rfl rfl rfl ?_
                  refine AS.pass rfl rfl rfl ?_
                  refine AS.pick rfl rfl rfl rfl rfl ?_
                  refine AS.opsEnd ?_
                  have w2 : Within c1 c1 mid hi := .refl _ _ _
                  have t2 : SortedR c1 mid hi := by
                    simp only [decide_eq_false_iff_not] at g209
                    have : mid + m - s = mid := by omega
                    have h3 := (SortedR.out w1 hH.r2 (.inr (by omega)))
                    rw [this] at h3; exact h3
                  refine AS.condF rfl ?_
                  refine AS.skip ?_
                  refine AS.rwk ?_
                  refine AS.end_ Try.func147 rfl (.nil) ?_
                  exact RWk.drop [] rfl ⟨c1, hw.trans ((w1.mono (Nat.le_refl _) (by omega)).trans (w2.mono (by omega) (Nat.le_refl _))), halves_end hH ⟨by omega, by omega⟩ w1 t1 w2 t2, rfl⟩
            · have hH := halves (l' := l) (b := hi) (by omega) h1 h2 hmid s1 s2 hlo hI (.inr ⟨by simp only [decide_eq_true_eq, decide_eq_false_iff_not] at *; omega, rfl⟩)
              have hw : Within l l lo hi := .refl _ _ _
              have hk1 := hk
              have hn1 := hn
              refine AS.skip ?_
              refine AS.seq ?_
              refine AS.seq ?_
              refine AS.region rfl ?_
              refine AS.move rfl rfl rfl rfl ?_
              refine AS.move rfl rfl rfl rfl ?_
              refine AS.bin rfl rfl rfl rfl rfl (BinR.lss rfl) ?_
              refine AS.move rfl rfl rfl rfl ?_
              refine AS.splitT 195 rfl (fun g195 => ?_) (fun g195 => ?_)
              · refine AS.move rfl rfl rfl rfl ?_
                refine AS.move rfl rfl rfl rfl ?_
                refine AS.bin rfl rfl rfl rfl rfl (BinR.lss rfl) ?_
                refine AS.pick rfl rfl rfl rfl rfl ?_
                refine AS.opsEnd ?_
                refine AS.cond rfl (fun hc12 => ?_) (fun hc12 => ?_)
                · refine AS.region rfl ?_
                  refine AS.move rfl rfl rfl rfl ?_
                  refine AS.move rfl rfl rfl rfl ?_
                  refine AS.move rfl rfl rfl rfl ?_
                  refine AS.move rfl rfl rfl rfl ?_
                  refine AS.move rfl rfl rfl rfl ?_
                  refine AS.call rfl rfl rfl rfl TT10.en147 (ih l rs b n cap lo s mid H hk1 hn1 (by omega) hb (by simp only [decide_eq_true_eq] at g195; omega) (by simp only [decide_eq_true_eq] at hc12; omega) hH.l1 hH.r1 (by omega)) ?_
                  rintro _ _ ⟨c2, w1, t1, rfl⟩
                  have hk2 : ∀ o ∈ c2, keyFits o.key := fun o ho => hk1 o (w1.perm.mem_iff.1 ho)
                  have hn2 : n = c2.length := by rw [w1.len]; exact hn1
                  refine AS.opsEnd ?_
                  refine AS.seq ?_
                  refine AS.region rfl ?_
                  refine AS.move rfl rfl rfl rfl ?_
                  refine AS.move rfl rfl rfl rfl ?_
                  refine AS.bin rfl rfl rfl rfl rfl (BinR.lss rfl) ?_
                  refine AS.move rfl rfl rfl rfl ?_
                  refine AS.splitT 209 rfl (fun g209 => ?_) (fun g209 => ?_)
                  · refine AS.move rfl rfl rfl rfl ?_
                    refine AS.move rfl rfl rfl rfl ?_
                    refine AS.bin rfl rfl rfl rfl rfl (BinR.lss rfl) ?_
                    refine AS.pick rfl rfl rfl rfl rfl ?_
                    refine AS.opsEnd ?_
                    refine AS.cond rfl (fun hc13 => ?_) (fun hc13 => ?_)
                    · refine AS.region rfl ?_
                      refine AS.move rfl rfl rfl rfl ?_
                      refine AS.move rfl rfl rfl rfl ?_
                      refine AS.move rfl rfl rfl rfl ?_
                      refine AS.move rfl rfl rfl rfl ?_
                      refine AS.move rfl rfl rfl rfl ?_
                      refine AS.call rfl rfl rfl rfl TT10.en147 (ih c2 rs b n cap mid (mid + m - s) hi H hk2 hn2 (by omega) hb (by simp only [decide_eq_true_eq] at g209; omega) (by simp only [decide_eq_true_eq] at hc13; omega) (SortedR.out w1 hH.l2 (.inr (Nat.le_refl _))) (SortedR.out w1 hH.r2 (.inr (by omega))) (by omega)) ?_
                      rintro _ _ ⟨c3, w2, t2, rfl⟩
                      refine AS.opsEnd ?_
                      refine AS.rwk ?_
                      refine AS.end_ Try.func147 rfl (.nil) ?_
                      exact RWk.drop [] rfl ⟨c3, hw.trans ((w1.mono (Nat.le_refl _) (by omega)).trans (w2.mono (by omega) (Nat.le_refl _))), halves_end hH ⟨by omega, by omega⟩ w1 t1 w2 t2, rfl⟩
                    · have w2 : Within c2 c2 mid hi := .refl _ _ _
                      have t2 : SortedR c2 mid hi := by
                        simp only [decide_eq_true_eq, decide_eq_false_iff_not] at g209 hc13
                        by_cases hq : mid < mid + m - s
                        · have : mid + m - s = hi := by omega
                          have h3 := (SortedR.out w1 hH.l2 (.inr (Nat.le_refl _)))
                          rw [this] at h3; exact h3
                        · have : mid + m - s = mid := by omega
                          have h3 := (SortedR.out w1 hH.r2 (.inr (by omega)))
                          rw [this] at h3; exact h3
                      refine AS.skip ?_
                      refine AS.rwk ?_
                      refine AS.end_ Try.func147 rfl (.nil) ?_
                      exact RWk.drop [] rfl ⟨c2, hw.trans ((w1.mono (Nat.le_refl _) (by omega)).trans (w2.mono (by omega) (Nat.le_refl _))), halves_end hH ⟨by omega, by omega⟩ w1 t1 w2 t2, rfl⟩
                  · refine AS.pass rfl rfl rfl ?_
                    refine AS.pass rfl rfl rfl ?_
                    refine AS.pass rfl rfl rfl ?_
                    refine AS.pick rfl rfl rfl rfl rfl ?_
                    refine AS.opsEnd ?_
                    have w2 : Within c2 c2 mid hi := .refl _ _ _
                    have t2 : SortedR c2 mid hi := by
                      simp only [decide_eq_false_iff_not] at g209
                      have : mid + m - s = mid := by omega
                      have h3 := (SortedR.out w1 hH.r2 (.inr (by omega)))
                      rw [this] at h3; exact h3
                    refine AS.condF rfl ?_
                    refine AS.skip ?_
                    refine AS.rwk ?_
                    refine AS.end_ Try.func147 rfl (.nil) ?_
                    exact RWk.drop [] rfl ⟨c2, hw.trans ((w1.mono (Nat.le_refl _) (by omega)).trans (w2.mono (by omega) (Nat.le_refl _))), halves_end hH ⟨by omega, by omega⟩ w1 t1 w2 t2, rfl⟩
                · have w1 : Within l l lo mid := .refl _ _ _
                  have t1 : SortedR l lo mid := by
                    simp only [decide_eq_true_eq, decide_eq_false_iff_not] at g195 hc12
                    by_cases hq : lo < s
                    · have : s = mid := by omega
                      rw [← this]; exact hH.l1
                    · have : s = lo := by omega
                      have h3 := hH.r1
                      rw [this] at h3; exact h3
                  have hk2 := hk1
                  have hn2 := hn1
                  refine AS.skip ?_
                  refine AS.seq ?_
                  refine AS.region rfl ?_
                  refine AS.move rfl rfl rfl rfl ?_
                  refine AS.move rfl rfl rfl rfl ?_
                  refine AS.bin rfl rfl rfl rfl rfl (BinR.lss rfl) ?_
                  refine AS.move rfl rfl rfl rfl ?_
                  refine AS.splitT 209 rfl (fun g209 => ?_) (fun g209 => ?_)
                  · refine AS.move rfl rfl rfl rfl ?_
                    refine AS.move rfl rfl rfl rfl ?_
                    refine AS.bin rfl rfl rfl rfl rfl (BinR.lss rfl) ?_
                    refine AS.pick rfl rfl rfl rfl rfl ?_
                    refine AS.opsEnd ?_
                    refine AS.cond rfl (fun hc13 => ?_) (fun hc13 => ?_)
                    · refine AS.region rfl ?_
                      refine AS.move rfl rfl rfl rfl ?_
                      refine AS.move rfl rfl rfl rfl ?_
                      refine AS.move rfl rfl rfl rfl ?_
                      refine AS.move rfl rfl rfl rfl ?_
                      refine AS.move rfl rfl rfl rfl ?_
                      refine AS.call rfl rfl rfl rfl TT10.en147 (ih l rs b n cap mid (mid + m - s) hi H hk2 hn2 (by omega) hb (by simp only [decide_eq_true_eq] at g209; omega) (by simp only [decide_eq_true_eq] at hc13; omega) (SortedR.out w1 hH.l2 (.inr (Nat.le_refl _))) (SortedR.out w1 hH.r2 (.inr (by omega))) (by omega)) ?_
                      rintro _ _ ⟨c3, w2, t2, rfl⟩
                      refine AS.opsEnd ?_
                      refine AS.rwk ?_
                      refine AS.end_ Try.func147 rfl (.nil) ?_
                      exact RWk.drop [] rfl ⟨c3, hw.trans ((w1.mono (Nat.le_refl _) (by omega)).trans (w2.mono (by omega) (Nat.le_refl _))), halves_end hH ⟨by omega, by omega⟩ w1 t1 w2 t2, rfl⟩
                    · have w2 : Within l l mid hi := .refl _ _ _
                      have t2 : SortedR l mid hi := by
                        simp only [decide_eq_true_eq, decide_eq_false_iff_not] at g209 hc13
                        by_cases hq : mid < mid + m - s
                        · have : mid + m - s = hi := by omega
                          have h3 := (SortedR.out w1 hH.l2 (.inr (Nat.le_refl _)))
                          rw [this] at h3; exact h3
                        · have : mid + m - s = mid := by omega
                          have h3 := (SortedR.out w1 hH.r2 (.inr (by omega)))
                          rw [this] at h3; exact h3
                      refine AS.skip ?_
                      refine AS.rwk ?_
                      refine AS.end_ Try.func147 rfl (.nil) ?_
                      exact RWk.drop [] rfl ⟨l, hw.trans ((w1.mono (Nat.le_refl _) (by omega)).trans (w2.mono (by omega) (Nat.le_refl _))), halves_end hH ⟨by omega, by omega⟩ w1 t1 w2 t2, rfl⟩
                  · refine AS.pass rfl rfl rfl ?_
                    refine AS.pass rfl rfl rfl ?_
                    refine AS.pass rfl rfl rfl ?_
                    refine AS.pick rfl rfl rfl rfl rfl ?_
                    refine AS.opsEnd ?_
                    have w2 : Within l l mid hi := .refl _ _ _
                    have t2 : SortedR l mid hi := by
                      simp only [decide_eq_false_iff_not] at g209
                      have : mid + m - s = mid := by omega
                      have h3 := (SortedR.out w1 hH.r2 (.inr (by omega)))
                      rw [this] at h3; exact h3
                    refine AS.condF rfl ?_
                    refine AS.skip ?_
                    refine AS.rwk ?_
                    refine AS.end_ Try.func147 rfl (.nil) ?_
                    exact RWk.drop [] rfl ⟨l, hw.trans ((w1.mono (Nat.le_refl _) (by omega)).trans (w2.mono (by omega) (Nat.le_refl _))), halves_end hH ⟨by omega, by omega⟩ w1 t1 w2 t2, rfl⟩
              · refine AS.pass rfl rfl rfl ?_
                refine AS.pass rfl rfl rfl ?_
                refine AS.pass rfl rfl rfl ?_
                refine AS.pick rfl rfl rfl rfl rfl ?_
                refine AS.opsEnd ?_
                have w1 : Within l l lo mid := .refl _ _ _
                have t1 : SortedR l lo mid := by
                  simp only [decide_eq_true_eq, decide_eq_false_iff_not] at g195
                  have : s = lo := by omega
                  have h3 := hH.r1
                  rw [this] at h3; exact h3
                have hk2 := hk1
                have hn2 := hn1
                refine AS.condF rfl ?_
                refine AS.skip ?_
                refine AS.seq ?_
                refine AS.region rfl ?_
                refine AS.move rfl rfl rfl rfl ?_
                refine AS.move rfl rfl rfl rfl ?_
                refine AS.bin rfl rfl rfl rfl rfl (BinR.lss rfl) ?_
                refine AS.move rfl rfl rfl rfl ?_
                refine AS.splitT 209 rfl (fun g209 => ?_) (fun g209 => ?_)
                · refine AS.move rfl rfl rfl rfl ?_
                  refine AS.move rfl rfl rfl rfl ?_
                  refine AS.bin rfl rfl rfl rfl rfl (BinR.lss rfl) ?_
                  refine AS.pick rfl rfl rfl rfl rfl ?_
                  refine AS.opsEnd ?_
                  refine AS.cond rfl (fun hc13 => ?_) (fun hc13 => ?_)
                  · refine AS.region rfl ?_
                    refine AS.move rfl rfl rfl rfl ?_
                    refine AS.move rfl rfl rfl rfl ?_
                    refine AS.move rfl rfl rfl rfl ?_
                    refine AS.move rfl rfl rfl rfl ?_
                    refine AS.move rfl rfl rfl rfl ?_
                    refine AS.call rfl rfl rfl rfl TT10.en147 (ih l rs b n cap mid (mid + m - s) hi H hk2 hn2 (by omega) hb (by simp only [decide_eq_true_eq] at g209; omega) (by simp only [decide_eq_true_eq] at hc13; omega) (SortedR.out w1 hH.l2 (.inr (Nat.le_refl _))) (SortedR.out w1 hH.r2 (.inr (by omega))) (by omega)) ?_
                    rintro _ _ ⟨c3, w2, t2, rfl⟩
                    refine AS.opsEnd ?_
                    refine AS.rwk ?_
                    refine AS.end_ Try.func147 rfl (.nil) ?_
                    exact RWk.drop [] rfl ⟨c3, hw.trans ((w1.mono (Nat.le_refl _) (by omega)).trans (w2.mono (by omega) (Nat.le_refl _))), halves_end hH ⟨by omega, by omega⟩ w1 t1 w2 t2, rfl⟩
                  · have w2 : Within l l mid hi := .refl _ _ _
                    have t2 : SortedR l mid hi := by
                      simp only [decide_eq_true_eq, decide_eq_false_iff_not] at g209 hc13
                      by_cases hq : mid < mid + m - s
                      · have : mid + m - s = hi := by omega
                        have h3 := (SortedR.out w1 hH.l2 (.inr (Nat.le_refl _)))
                        rw [this] at h3; exact h3
                      · have : mid + m - s = mid := by omega
                        have h3 := (SortedR.out w1 hH.r2 (.inr (by omega)))
                        rw [this] at h3; exact h3
                    refine AS.skip ?_
                    refine AS.rwk ?_
                    refine AS.end_ Try.func147 rfl (.nil) ?_
                    exact RWk.drop [] rfl ⟨l, hw.trans ((w1.mono (Nat.le_refl _) (by omega)).trans (w2.mono (by omega) (Nat.le_refl _))), halves_end hH ⟨by omega, by omega⟩ w1 t1 w2 t2, rfl⟩
                · refine AS.pass rfl rfl rfl ?_
                  refine AS.pass rfl rfl rfl ?_
                  refine AS.pass rfl rfl rfl ?_
                  refine AS.pick rfl rfl rfl rfl rfl ?_
                  refine AS.opsEnd ?_
                  have w2 : Within l l mid hi := .refl _ _ _
                  have t2 : SortedR l mid hi := by
                    simp only [decide_eq_false_iff_not] at g209
                    have : mid + m - s = mid := by omega
                    have h3 := (SortedR.out w1 hH.r2 (.inr (by omega)))
                    rw [this] at h3; exact h3
                  refine AS.condF rfl ?_
                  refine AS.skip ?_
                  refine AS.rwk ?_
                  refine AS.end_ Try.func147 rfl (.nil) ?_
                  exact RWk.drop [] rfl ⟨l, hw.trans ((w1.mono (Nat.le_refl _) (by omega)).trans (w2.mono (by omega) (Nat.le_refl _))), halves_end hH ⟨by omega, by omega⟩ w1 t1 w2 t2, rfl⟩
          · refine AS.pass rfl rfl rfl ?_
            refine AS.pass rfl rfl rfl ?_
            refine AS.pass rfl rfl rfl ?_
            refine AS.pick rfl rfl rfl rfl rfl ?_
            refine AS.opsEnd ?_
            have hH := halves (l' := l) (b := hi) (by omega) h1 h2 hmid s1 s2 hlo hI (.inr ⟨by simp only [decide_eq_false_iff_not] at *; omega, rfl⟩)
            have hw : Within l l lo hi := .refl _ _ _
            have hk1 := hk
            have hn1 := hn
            refine AS.condF rfl ?_
            refine AS.skip ?_
            refine AS.seq ?_
            refine AS.seq ?_
            refine AS.region rfl ?_
            refine AS.move rfl rfl rfl rfl ?_
            refine AS.move rfl rfl rfl rfl ?_
            refine AS.bin rfl rfl rfl rfl rfl (BinR.lss rfl) ?_
            refine AS.move rfl rfl rfl rfl ?_
            refine AS.splitT 195 rfl (fun g195 => ?_) (fun g195 => ?_)
            · refine AS.move rfl rfl rfl rfl ?_
              refine AS.move rfl rfl rfl rfl ?_
              refine AS.bin rfl rfl rfl rfl rfl (BinR.lss rfl) ?_
              refine AS.pick rfl rfl rfl rfl rfl ?_
              refine AS.opsEnd ?_
              refine AS.cond rfl (fun hc12 => ?_) (fun hc12 => ?_)
              · refine AS.region rfl ?_
                refine AS.move rfl rfl rfl rfl ?_
                refine AS.move rfl rfl rfl rfl ?_
                refine AS.move rfl rfl rfl rfl ?_
                refine AS.move rfl rfl rfl rfl ?_
                refine AS.move rfl rfl rfl rfl ?_
                refine AS.call rfl rfl rfl rfl TT10.en147 (ih l rs b n cap lo s mid H hk1 hn1 (by omega) hb (by simp only [decide_eq_true_eq] at g195; omega) (by simp only [decide_eq_true_eq] at hc12; omega) hH.l1 hH.r1 (by omega)) ?_
                rintro _ _ ⟨c2, w1, t1, rfl⟩
                have hk2 : ∀ o ∈ c2, keyFits o.key := fun o ho => hk1 o (w1.perm.mem_iff.1 ho)
                have hn2 : n = c2.length := by rw [w1.len]; exact hn1
                refine AS.opsEnd ?_
                refine AS.seq ?_
                refine AS.region rfl ?_
                refine AS.move rfl rfl rfl rfl ?_
                refine AS.move rfl rfl rfl rfl ?_
                refine AS.bin rfl rfl rfl rfl rfl (BinR.lss rfl) ?_
                refine AS.move rfl rfl rfl rfl ?_
                refine AS.splitT 209 rfl (fun g209 => ?_) (fun g209 => ?_)
                · refine AS.move rfl rfl rfl rfl ?_
                  refine AS.move rfl rfl rfl rfl ?_
                  refine AS.bin rfl rfl rfl rfl rfl (BinR.lss rfl) ?_
                  refine AS.pick rfl rfl rfl rfl rfl ?_
                  refine AS.opsEnd ?_
                  refine AS.cond rfl (fun hc13 => ?_) (fun hc13 => ?_)
                  · refine AS.region rfl ?_
                    refine AS.move rfl rfl rfl rfl ?_
                    refine AS.move rfl rfl rfl rfl ?_
                    refine AS.move rfl rfl rfl rfl ?_
                    refine AS.move rfl rfl rfl rfl ?_
                    refine AS.move rfl rfl rfl rfl ?_
                    refine AS.call rfl rfl rfl rfl TT10.en147 (ih c2 rs b n cap mid (mid + m - s) hi H hk2 hn2 (by omega) hb (by simp only [decide_eq_true_eq] at g209; omega) (by simp only [decide_eq_true_eq] at hc13; omega) (SortedR.out w1 hH.l2 (.inr (Nat.le_refl _))) (SortedR.out w1 hH.r2 (.inr (by omega))) (by omega)) ?_
                    rintro _ _ ⟨c3, w2, t2, rfl⟩
                    refine AS.opsEnd ?_
                    refine AS.rwk ?_
                    refine AS.end_ Try.func147 rfl (.nil) ?_
                    exact RWk.drop [] rfl ⟨c3, hw.trans ((w1.mono (Nat.le_refl _) (by omega)).trans (w2.mono (by omega) (Nat.le_refl _))), halves_end hH ⟨by omega, by omega⟩ w1 t1 w2 t2, rfl⟩
                  · have w2 : Within c2 c2 mid hi := .refl _ _ _
                    have t2 : SortedR c2 mid hi := by
                      simp only [decide_eq_true_eq, decide_eq_false_iff_not] at g209 hc13
                      by_cases hq : mid < mid + m - s
                      · have : mid + m - s = hi := by omega
                        have h3 := (SortedR.out w1 hH.l2 (.inr (Nat.le_refl _)))
                        rw [this] at h3; exact h3
                      · have : mid + m - s = mid := by omega
                        have h3 := (SortedR.out w1 hH.r2 (.inr (by omega)))
                        rw [this] at h3; exact h3
                    refine AS.skip ?_
                    refine AS.rwk ?_
                    refine AS.end_ Try.func147 rfl (.nil) ?_
                    exact RWk.drop [] rfl ⟨c2, hw.trans ((w1.mono (Nat.le_refl _) (by omega)).trans (w2.mono (by omega) (Nat.le_refl _))), halves_end hH ⟨by omega, by omega⟩ w1 t1 w2 t2, rfl⟩
                · refine AS.pass rfl rfl rfl ?_
                  refine AS.pass rfl rfl rfl ?_
                  refine AS.pass rfl rfl rfl ?_
                  refine AS.pick rfl rfl rfl rfl rfl ?_
                  refine AS.opsEnd ?_
                  have w2 : Within c2 c2 mid hi := .refl _ _ _
                  have t2 : SortedR c2 mid hi := by
                    simp only [decide_eq_false_iff_not] at g209
                    have : mid + m - s = mid := by omega
                    have h3 := (SortedR.out w1 hH.r2 (.inr (by omega)))
                    rw [this] at h3; exact h3
                  refine AS.condF rfl ?_
                  refine AS.skip ?_
                  refine AS.rwk ?_
                  refine AS.end_ Try.func147 rfl (.nil) ?_
                  exact RWk.drop [] rfl ⟨c2, hw.trans ((w1.mono (Nat.le_refl _) (by omega)).trans (w2.mono (by omega) (Nat.le_refl _))), halves_end hH ⟨by omega, by omega⟩ w1 t1 w2 t2, rfl⟩
              · have w1 : Within l l lo mid := .refl _ _ _
                have t1 : SortedR l lo mid := by
                  simp only [decide_eq_true_eq, decide_eq_false_iff_not] at g195 hc12
                  by_cases hq : lo < s
                  · have : s = mid := by omega
                    rw [← this]; exact hH.l1
                  · have : s = lo := by omega
                    have h3 := hH.r1
                    rw [this] at h3; exact h3
                have hk2 := hk1
                have hn2 := hn1
                refine AS.skip ?_
                refine AS.seq ?_
                refine AS.region rfl ?_
                refine AS.move rfl rfl rfl rfl ?_
                refine AS.move rfl rfl rfl rfl ?_
                refine AS.bin rfl rfl rfl rfl rfl (BinR.lss rfl) ?_
                refine AS.move rfl rfl rfl rfl ?_
                refine AS.splitT 209 rfl (fun g209 => ?_) (fun g209 => ?_)
                · refine AS.move rfl rfl rfl rfl ?_
                  refine AS.move rfl rfl rfl rfl ?_
                  refine AS.bin rfl rfl rfl rfl rfl (BinR.lss rfl) ?_
                  refine AS.pick rfl rfl rfl rfl rfl ?_
                  refine AS.opsEnd ?_
                  refine AS.cond rfl (fun hc13 => ?_) (fun hc13 => ?_)
                  · refine AS.region rfl ?_
                    refine AS.move rfl rfl rfl rfl ?_
                    refine AS.move rfl rfl rfl rfl ?_
                    refine AS.move rfl rfl rfl rfl ?_
                    refine AS.move rfl rfl rfl rfl ?_
                    refine AS.move rfl rfl rfl rfl ?_
                    refine AS.call rfl rfl rfl rfl TT10.en147 (ih l rs b n cap mid (mid + m - s) hi H hk2 hn2 (by omega) hb (by simp only [decide_eq_true_eq] at g209; omega) (by simp only [decide_eq_true_eq] at hc13; omega) (SortedR.out w1 hH.l2 (.inr (Nat.le_refl _))) (SortedR.out w1 hH.r2 (.inr (by omega))) (by omega)) ?_
                    rintro _ _ ⟨c3, w2, t2, rfl⟩
                    refine AS.opsEnd ?_
                    refine AS.rwk ?_
                    refine AS.end_ Try.func147 rfl (.nil) ?_
                    exact RWk.drop [] rfl ⟨c3, hw.trans ((w1.mono (Nat.le_refl _) (by omega)).trans (w2.mono (by omega) (Nat.le_refl _))), halves_end hH ⟨by omega, by omega⟩ w1 t1 w2 t2, rfl⟩
                  · have w2 : Within l l mid hi := .refl _ _ _
                    have t2 : SortedR l mid hi := by
                      simp only [decide_eq_true_eq, decide_eq_false_iff_not] at g209 hc13
                      by_cases hq : mid < mid + m - s
                      · have : mid + m - s = hi := by omega
                        have h3 := (SortedR.out w1 hH.l2 (.inr (Nat.le_refl _)))
                        rw [this] at h3; exact h3
                      · have : mid + m - s = mid := by omega
                        have h3 := (SortedR.out w1 hH.r2 (.inr (by omega)))
                        rw [this] at h3; exact h3
                    refine AS.skip ?_
                    refine AS.rwk ?_
                    refine AS.end_ Try.func147 rfl (.nil) ?_
                    exact RWk.drop [] rfl ⟨l, hw.trans ((w1.mono (Nat.le_refl _) (by omega)).trans (w2.mono (by omega) (Nat.le_refl _))), halves_end hH ⟨by omega, by omega⟩ w1 t1 w2 t2, rfl⟩
                · refine AS.pass rfl rfl rfl ?_
                  refine AS.pass rfl rfl rfl ?_
                  refine AS.pass rfl rfl rfl ?_
                  refine AS.pick rfl rfl rfl rfl rfl ?_
                  refine AS.opsEnd ?_
                  have w2 : Within l l mid hi := .refl _ _ _
                  have t2 : SortedR l mid hi := by
                    simp only [decide_eq_false_iff_not] at g209
                    have : mid + m - s = mid := by omega
                    have h3 := (SortedR.out w1 hH.r2 (.inr (by omega)))
                    rw [this] at h3; exact h3
                  refine AS.condF rfl ?_
                  refine AS.skip ?_
                  refine AS.rwk ?_
                  refine AS.end_ Try.func147 rfl (.nil) ?_
                  exact RWk.drop [] rfl ⟨l, hw.trans ((w1.mono (Nat.le_refl _) (by omega)).trans (w2.mono (by omega) (Nat.le_refl _))), halves_end hH ⟨by omega, by omega⟩ w1 t1 w2 t2, rfl⟩
            · refine AS.pass rfl rfl rfl ?_
              refine AS.pass rfl rfl rfl ?_
              refine AS.pass rfl rfl rfl ?_
              refine AS.pick rfl rfl rfl rfl rfl ?_
              refine AS.opsEnd ?_
              have w1 : Within l l lo mid := .refl _ _ _
              have t1 : SortedR l lo mid := by
                simp only [decide_eq_true_eq, decide_eq_false_iff_not] at g195
                have : s = lo := by omega
                have h3 := hH.r1
                rw [this] at h3; exact h3
              have hk2 := hk1
              have hn2 := hn1
              refine AS.condF rfl ?_
              refine AS.skip ?_
              refine AS.seq ?_
              refine AS.region rfl ?_
              refine AS.move rfl rfl rfl rfl ?_
              refine AS.move rfl rfl rfl rfl ?_
              refine AS.bin rfl rfl rfl rfl rfl (BinR.lss rfl) ?_
              refine AS.move rfl rfl rfl rfl ?_
              refine AS.splitT 209 rfl (fun g209 => ?_) (fun g209 => ?_)
              · refine AS.move rfl rfl rfl rfl ?_
                refine AS.move rfl rfl rfl rfl ?_
                refine AS.bin rfl rfl rfl rfl rfl (BinR.lss rfl) ?_
                refine AS.pick rfl rfl rfl rfl rfl ?_
                refine AS.opsEnd ?_
                refine AS.cond rfl (fun hc13 => ?_) (fun hc13 => ?_)
                · refine AS.region rfl ?_
                  refine AS.move rfl rfl rfl rfl ?_
                  refine AS.move rfl rfl rfl rfl ?_
                  refine AS.move rfl rfl rfl rfl ?_
                  refine AS.move rfl rfl rfl rfl ?_
                  refine AS.move rfl rfl rfl rfl ?_
                  refine AS.call rfl rfl rfl rfl TT10.en147 (ih l rs b n cap mid (mid + m - s) hi H hk2 hn2 (by omega) hb (by simp only [decide_eq_true_eq] at g209; omega) (by simp only [decide_eq_true_eq] at hc13; omega) (SortedR.out w1 hH.l2 (.inr (Nat.le_refl _))) (SortedR.out w1 hH.r2 (.inr (by omega))) (by omega)) ?_
                  rintro _ _ ⟨c3, w2, t2, rfl⟩
                  refine AS.opsEnd ?_
                  refine AS.rwk ?_
                  refine AS.end_ Try.func147 rfl (.nil) ?_
                  exact RWk.drop [] rfl ⟨c3, hw.trans ((w1.mono (Nat.le_refl _) (by omega)).trans (w2.mono (by omega) (Nat.le_refl _))), halves_end hH ⟨by omega, by omega⟩ w1 t1 w2 t2, rfl⟩
                · have w2 : Within l l mid hi := .refl _ _ _
                  have t2 : SortedR l mid hi := by
                    simp only [decide_eq_true_eq, decide_eq_false_iff_not] at g209 hc13
                    by_cases hq : mid < mid + m - s
                    · have : mid + m - s = hi := by omega
                      have h3 := (SortedR.out w1 hH.l2 (.inr (Nat.le_refl _)))
                      rw [this] at h3; exact h3
                    · have : mid + m - s = mid := by omega
                      have h3 := (SortedR.out w1 hH.r2 (.inr (by omega)))
                      rw [this] at h3; exact h3
                  refine AS.skip ?_
                  refine AS.rwk ?_
                  refine AS.end_ Try.func147 rfl (.nil) ?_
                  exact RWk.drop [] rfl ⟨l, hw.trans ((w1.mono (Nat.le_refl _) (by omega)).trans (w2.mono (by omega) (Nat.le_refl _))), halves_end hH ⟨by omega, by omega⟩ w1 t1 w2 t2, rfl⟩
              · refine AS.pass rfl rfl rfl ?_
                refine AS.pass rfl rfl rfl ?_
                refine AS.pass rfl rfl rfl ?_
                refine AS.pick rfl rfl rfl rfl rfl ?_
                refine AS.opsEnd ?_
                have w2 : Within l l mid hi := .refl _ _ _
                have t2 : SortedR l mid hi := by
                  simp only [decide_eq_false_iff_not] at g209
                  have : mid + m - s = mid := by omega
                  have h3 := (SortedR.out w1 hH.r2 (.inr (by omega)))
                  rw [this] at h3; exact h3
                refine AS.condF rfl ?_
                refine AS.skip ?_
                refine AS.rwk ?_
                refine AS.end_ Try.func147 rfl (.nil) ?_
                exact RWk.drop [] rfl ⟨l, hw.trans ((w1.mono (Nat.le_refl _) (by omega)).trans (w2.mono (by omega) (Nat.le_refl _))), halves_end hH ⟨by omega, by omega⟩ w1 t1 w2 t2, rfl⟩
theorem symMerge_spec : ∀ N, SymC N
  | 0 => fun _ _ _ _ _ _ _ _ _ _ _ _ _ _ _ _ _ h => absurd h (Nat.not_lt_zero _)
  | N + 1 => fun l rs b n cap lo m hi H hk hn hh hb h1 h2 s1 s2 hN => symMerge_step N (symMerge_spec N) l rs b n cap lo m hi H hk hn hh hb h1 h2 s1 s2 hN

end Go.Proofs.Ytncecheccihjoaa
/- The stable sort's blocks; a list's one order: in plain Lean. -/
namespace Go.Proofs.Fw
open Go
set_option linter.unusedVariables false

def Blocks (c : List Object) (u : Nat) : Prop := ∀ t, SortedR c (t * u) ((t + 1) * u)
theorem SortedR.clip {c : List Object} {a b : Nat} (h : SortedR c a c.length) : SortedR c a b := fun i j x y h1 h2 _ h4 h5 => h i j x y h1 h2 (List.getElem?_eq_some_iff.1 h5).1 h4 h5
theorem SortedR.void {c : List Object} {a b : Nat} (h : c.length ≤ a) : SortedR c a b := fun i j x y h1 h2 _ h4 h5 => by have := (List.getElem?_eq_some_iff.1 h5).1; omega
structure StU (c : List Object) (u a : Nat) : Prop where
  q : ∃ q, a = q * u
  done : ∀ t, (t + 1) * u ≤ a → SortedR c (t * u) ((t + 1) * u)
theorem stU_start (c : List Object) {u : Nat} (hu : 0 < u) : StU c u 0 := ⟨⟨0, by simp⟩, fun t h => by rw [Nat.succ_mul] at h; omega⟩
theorem stU_step {c c' : List Object} {u a : Nat} (h : StU c u a) (hu : 0 < u) (w : Within c c' a (a + u)) (s : SortedR c' a (a + u)) : StU c' u (a + u) := by
  obtain ⟨q, hq⟩ := h.q
  refine ⟨⟨q + 1, by rw [Nat.succ_mul, hq]⟩, fun t ht => ?_⟩
  have e1 : a + u = (q + 1) * u := by rw [Nat.succ_mul, hq]
  have h1 : t + 1 ≤ q + 1 := Nat.le_of_mul_le_mul_right (by rw [← e1]; exact ht) hu
  rcases Nat.lt_or_ge t q with h2 | h2
  · have h3 : (t + 1) * u ≤ a := by rw [hq]; exact Nat.mul_le_mul_right _ h2
    exact SortedR.out w (h.done t h3) (.inl h3)
  · have : t = q := by omega
    subst this
    rw [← e1, ← hq]; exact s
theorem stU_end {c c' : List Object} {u a : Nat} (h : StU c u a) (hn : c.length < a + u) (w : Within c c' a c.length) (s : SortedR c' a c.length) : Blocks c' u := fun t => by
  obtain ⟨q, hq⟩ := h.q
  rcases Nat.lt_trichotomy t q with h2 | h2 | h2
  · have h3 : (t + 1) * u ≤ a := by rw [hq]; exact Nat.mul_le_mul_right _ h2
    exact SortedR.out w (h.done t h3) (.inl h3)
  · subst h2
    rw [← hq]
    rw [← w.len] at s
    exact s.clip
  · refine SortedR.void ?_
    have h3 : (q + 1) * u ≤ t * u := Nat.mul_le_mul_right _ h2
    rw [Nat.succ_mul, ← hq] at h3
    rw [w.len]; omega
structure StB (c : List Object) (u a : Nat) : Prop where
  st : StU c (2 * u) a
  rest : ∀ t, a ≤ t * u → SortedR c (t * u) ((t + 1) * u)
theorem stB_start {c : List Object} {u : Nat} (hu : 0 < u) (h : Blocks c u) : StB c u 0 := ⟨stU_start c (by omega), fun t _ => h t⟩
theorem stB_pre {c : List Object} {u a : Nat} (h : StB c u a) : SortedR c a (a + u) ∧ SortedR c (a + u) (a + 2 * u) := by
  obtain ⟨q, hq⟩ := h.st.q
  have e1 : (2 * q) * u = a := by rw [hq, Nat.mul_comm 2 q, Nat.mul_assoc]
  have e2 : (2 * q + 1) * u = a + u := by rw [Nat.succ_mul, e1]
  have e3 : (2 * q + 1 + 1) * u = a + 2 * u := by rw [Nat.succ_mul, e2]; omega
  have h1 := h.rest (2 * q) (by rw [e1]; exact Nat.le_refl _)
  have h2 := h.rest (2 * q + 1) (by rw [e2]; omega)
  rw [e1, e2] at h1
  rw [e2, e3] at h2
  exact ⟨h1, h2⟩
theorem stB_step {c c' : List Object} {u a : Nat} (h : StB c u a) (hu : 0 < u) (w : Within c c' a (a + 2 * u)) (s : SortedR c' a (a + 2 * u)) : StB c' u (a + 2 * u) :=
  ⟨stU_step h.st (by omega) w s, fun t ht => SortedR.out w (h.rest t (by omega)) (.inr ht)⟩
theorem stB_end1 {c c' : List Object} {u a : Nat} (h : StB c u a) (hn : c.length < a + 2 * u) (w : Within c c' a c.length) (s : SortedR c' a c.length) : Blocks c' (u * 2) := by
  rw [Nat.mul_comm]; exact stU_end h.st hn w s
theorem stB_end2 {c : List Object} {u a : Nat} (h : StB c u a) (hu : 0 < u) (hn : c.length ≤ a + u) : Blocks c (u * 2) := by
  rw [Nat.mul_comm]
  exact stU_end h.st (by omega) (.refl c a c.length) ((stB_pre h).1.sub (Nat.le_refl _) hn)
theorem blocks_end {c : List Object} {u : Nat} (h : Blocks c u) (hn : c.length ≤ u) : SortedR c 0 c.length := by
  have := h 0
  rw [Nat.zero_mul, Nat.zero_add, Nat.one_mul] at this
  exact this.sub (Nat.le_refl _) hn

/-! ### One order alone -/
def Apart (l : List Object) : Prop := ∀ x ∈ l, ∀ y ∈ l, leO x y → leO y x → x = y
theorem sorted_cons {x : Object} {l : List Object} (h : SortedR (x :: l) 0 (x :: l).length) : (∀ y ∈ l, leO x y) ∧ SortedR l 0 l.length := by
  refine ⟨fun y hy => ?_, fun i j u v h1 h2 h3 h4 h5 => ?_⟩
  · obtain ⟨j, hj⟩ := List.getElem?_of_mem hy
    exact h 0 (j + 1) x y (Nat.zero_le _) (by omega) (by have := (List.getElem?_eq_some_iff.1 hj).1; simp; omega) rfl (by simpa using hj)
  · exact h (i + 1) (j + 1) u v (Nat.zero_le _) (by omega) (by simp; omega) (by simpa using h4) (by simpa using h5)
theorem one_order : ∀ {l l' : List Object}, l.Perm l' → SortedR l 0 l.length → SortedR l' 0 l'.length → Apart l → l = l'
  | [], l', hp, _, _, _ => (List.nil_perm.1 hp).symm
  | x :: l, [], hp, _, _, _ => absurd hp.length_eq (by simp)
  | x :: l, y :: l', hp, h1, h2, ha => by
    obtain ⟨a1, a2⟩ := sorted_cons h1
    obtain ⟨b1, b2⟩ := sorted_cons h2
    have hxy : x = y := by
      have hx : x ∈ y :: l' := hp.mem_iff.1 List.mem_cons_self
      have hy : y ∈ x :: l := hp.mem_iff.2 List.mem_cons_self
      rcases List.mem_cons.1 hx with e | hx
      · exact e
      · rcases List.mem_cons.1 hy with e | hy
        · exact e.symm
        · exact ha x List.mem_cons_self y (List.mem_cons_of_mem _ hy) (a1 y hy) (b1 x hx)
    subst hxy
    rw [one_order (hp.cons_inv) a2 b2 (fun u hu v hv => ha u (List.mem_cons_of_mem _ hu) v (List.mem_cons_of_mem _ hv))]
theorem insO_perm (o : Object) : ∀ l, (insO o l).Perm (o :: l)
  | [] => .refl _
  | x :: r => by
    unfold insO; split
    · exact .refl _
    · exact ((insO_perm o r).cons x).trans (.swap o x r)
theorem fold_perm : ∀ (l out : List Object), (l.foldl (fun out o => insO o out) out).Perm (l ++ out)
  | [], out => .refl _
  | a :: l, out => by
    refine (fold_perm l (insO a out)).trans ?_
    exact ((insO_perm a out).append_left l).trans (List.perm_middle)
theorem sortO_perm (l : List Object) : (sortO l).Perm l := by simpa [sortO] using fold_perm l []
theorem le_total_of_not {a b : Object} (h : keyLess a.key b.key = false) : leO b a := h
theorem insO_sorted {o : Object} : ∀ {l : List Object}, SortedR l 0 l.length → SortedR (insO o l) 0 (insO o l).length
  | [], _ => fun i j x y _ h2 h3 => by simp [insO] at h3; omega
  | x :: r, h => by
    obtain ⟨a1, a2⟩ := sorted_cons h
    have build : ∀ {z : Object} {s : List Object}, (∀ y ∈ s, leO z y) → SortedR s 0 s.length → SortedR (z :: s) 0 (z :: s).length := by
      intro z s hz hs i j u v h1 h2 h3 h4 h5
      cases j with
      | zero => omega
      | succ j =>
        have hj : s[j]? = some v := by simpa using h5
        cases i with
        | zero => simp at h4; subst h4; exact hz v (List.mem_of_getElem? hj)
        | succ i => exact hs i j u v (Nat.zero_le _) (by omega) (by simpa using h3) (by simpa using h4) hj
    unfold insO
    split
    · rename_i hl
      refine build (fun y hy => ?_) h
      rcases List.mem_cons.1 hy with e | hy
      · subst e; exact leO_of_lt hl
      · exact leO_trans (leO_of_lt hl) (a1 y hy)
    · rename_i hl
      refine build (fun y hy => ?_) (insO_sorted a2)
      rcases mem_insO hy with e | hy
      · subst e; exact (by simpa using hl : keyLess y.key x.key = false)
      · exact a1 y hy
theorem fold_sorted : ∀ (l out : List Object), SortedR out 0 out.length → SortedR (l.foldl (fun out o => insO o out) out) 0 (l.foldl (fun out o => insO o out) out).length
  | [], _, h => h
  | a :: l, out, h => fold_sorted l _ (insO_sorted h)
theorem sortO_sorted (l : List Object) : SortedR (sortO l) 0 (sortO l).length := fold_sorted l [] (fun i j x y _ _ h => by simp at h)
theorem sorted_is {l l' : List Object} (hp : l'.Perm l) (hs : SortedR l' 0 l'.length) (ha : Apart l) : l' = sortO l :=
  one_order (hp.trans (sortO_perm l).symm) hs (sortO_sorted l) (fun x hx y hy => ha x (hp.mem_iff.1 hx) y (hp.mem_iff.1 hy))
end Go.Proofs.Fw
/- T11 -/
namespace Go.Proofs.Ytncecheccihjoaa.TT11
open Go Go.Proofs.Fw Go.Shelf
theorem en101 : Enters Go.Proofs.Try.prog 101 := enters_of Go.Proofs.Try.func101 (by kernel_rfl) rfl
theorem en102 : Enters Go.Proofs.Try.prog 102 := enters_of Go.Proofs.Try.func102 (by kernel_rfl) rfl
theorem en126 : Enters Go.Proofs.Try.prog 126 := enters_of Go.Proofs.Try.func126 (by kernel_rfl) rfl
theorem en133 : Enters Go.Proofs.Try.prog 133 := enters_of Go.Proofs.Try.func133 (by kernel_rfl) rfl
theorem en146 : Enters Go.Proofs.Try.prog 146 := enters_of Go.Proofs.Try.func146 (by kernel_rfl) rfl
theorem en147 : Enters Go.Proofs.Try.prog 147 := enters_of Go.Proofs.Try.func147 (by kernel_rfl) rfl
theorem en166 : Enters Go.Proofs.Try.prog 166 := enters_of Go.Proofs.Try.func166 (by kernel_rfl) rfl
theorem en175 : Enters Go.Proofs.Try.prog 175 := enters_of Go.Proofs.Try.func175 (by kernel_rfl) rfl
theorem en20 : Enters Go.Proofs.Try.prog 20 := enters_of Go.Proofs.Try.func20 (by kernel_rfl) rfl
theorem en21 : Enters Go.Proofs.Try.prog 21 := enters_of Go.Proofs.Try.func21 (by kernel_rfl) rfl
theorem en52 : Enters Go.Proofs.Try.prog 52 := enters_of Go.Proofs.Try.func52 (by kernel_rfl) rfl
theorem en66 : Enters Go.Proofs.Try.prog 66 := enters_of Go.Proofs.Try.func66 (by kernel_rfl) rfl
theorem fl38_0 : fldI Go.Proofs.Try.prog 38 0 = some 0 := by kernel_rfl
theorem fl38_5 : fldI Go.Proofs.Try.prog 38 5 = some 7 := by kernel_rfl
theorem fl50_0 : fldI Go.Proofs.Try.prog 50 0 = some 0 := by kernel_rfl
theorem fl50_1 : fldI Go.Proofs.Try.prog 50 1 = some 1 := by kernel_rfl
theorem fl50_2 : fldI Go.Proofs.Try.prog 50 2 = some 9 := by kernel_rfl
theorem fl50_3 : fldI Go.Proofs.Try.prog 50 3 = some 10 := by kernel_rfl
theorem mixed : Go.Proofs.Try.prog.follows .mixedOrders = true := by kernel_rfl
theorem sl28 : sliI Go.Proofs.Try.prog 28 = some (50, 11, 144) := by kernel_rfl
theorem sl36 : sliI Go.Proofs.Try.prog 36 = some (116, 2, 24) := by kernel_rfl
theorem sl48 : sliI Go.Proofs.Try.prog 48 = some (38, 8, 104) := by kernel_rfl
theorem ty2 : tyI Go.Proofs.Try.prog 2 = some (1, false) := by kernel_rfl
theorem ty35 : tyI Go.Proofs.Try.prog 35 = some (3, true) := by kernel_rfl
theorem ty36 : tyI Go.Proofs.Try.prog 36 = some (1, false) := by kernel_rfl
theorem ty38 : tyI Go.Proofs.Try.prog 38 = some (8, true) := by kernel_rfl
theorem ty47 : tyI Go.Proofs.Try.prog 47 = some (1, false) := by kernel_rfl
theorem ty48 : tyI Go.Proofs.Try.prog 48 = some (1, false) := by kernel_rfl
theorem ty50 : tyI Go.Proofs.Try.prog 50 = some (11, true) := by kernel_rfl
theorem u180 : Go.Proofs.Try.prog.underlying 180 = some (.int .u64) := by kernel_rfl
theorem u28 : Go.Proofs.Try.prog.underlying 28 = some (.slice 50) := by kernel_rfl
theorem u3 : Go.Proofs.Try.prog.underlying 3 = some (.int .i64) := by kernel_rfl
theorem u36 : Go.Proofs.Try.prog.underlying 36 = some (.slice 116) := by kernel_rfl
theorem u48 : Go.Proofs.Try.prog.underlying 48 = some (.slice 38) := by kernel_rfl
theorem z116 : zI Go.Proofs.Try.prog 116 = some (.agg #[(.string ⟨#[]⟩), (.int .i64 0)]) := by kernel_rfl
theorem z38 : zI Go.Proofs.Try.prog 38 = some (.agg #[(.string ⟨#[]⟩), (.string ⟨#[]⟩), (.string ⟨#[]⟩), (.int .i64 0), (.string ⟨#[]⟩), (.bool false), (.bool false), (.slice none 0 0)]) := by kernel_rfl
theorem z50 : zI Go.Proofs.Try.prog 50 = some (.agg #[(.int .i64 0), (.string ⟨#[]⟩), (.string ⟨#[]⟩), (.string ⟨#[]⟩), (.int .i64 0), (.string ⟨#[]⟩), (.bool false), (.bool false), (.slice none 0 0), (.int .i64 0), (.slice none 0 0)]) := by kernel_rfl
end Go.Proofs.Ytncecheccihjoaa.TT11
namespace Go.Proofs.Ytncecheccihjoaa
open Go Go.Proofs.Fw Go.Proofs
set_option linter.unusedVariables false
set_option linter.unusedSimpArgs false
set_option maxRecDepth 20000
set_option maxHeartbeats 4000000
theorem stable_spec (l : List Object) (rs : List AV) (b n cap : Nat) (H : AH) (hk : ∀ o ∈ l, keyFits o.key) (hn : n = l.length) (hb : n ≤ 1000000) : ACalls Try.prog [] 133 [.mslice b 0 n cap, .int .i64 n, .func (.func 101) [] []] ((b, .row (rowOf encObj l rs) 38) :: H) (fun _ H' => ∃ l', Within l l' 0 n ∧ SortedR l' 0 n ∧ H' = (b, .row (rowOf encObj l' rs) 38) :: H) := by
  refine ACalls.enter (n := 63) Try.func133 rfl rfl (Nat.le_of_ble_eq_true rfl) ?_
  refine AS.seq ?_
  refine AS.region rfl ?_
  refine AS.assign rfl rfl rfl rfl ?_
  refine AS.opsEnd ?_
  refine AS.seq ?_
  refine AS.region rfl ?_
  refine AS.move rfl rfl rfl rfl ?_
  refine AS.assign rfl rfl rfl rfl ?_
  refine AS.assign rfl rfl rfl rfl ?_
  refine AS.opsEnd ?_
  refine AS.seq ?_
  refine AS.block ?_
  refine AS.loopI (α := Nat × List Object) (fun s => s.1 ≤ n ∧ Within l s.2 0 n ∧ StU s.2 20 s.1) (fun s => n - s.1) (fun s => [(7, .int .i64 s.1), (8, .int .i64 ((s.1 + 20 : Nat) : Int))]) [(0, _), (1, _), (2, _), (6, _)] (fun s => (b, .row (rowOf encObj s.2 rs) 38) :: H) (0, l) ⟨Nat.zero_le _, .refl _ _ _, stU_start l (by omega)⟩ (.cons rfl (.cons rfl (.cons rfl (.cons rfl (.cons rfl (.cons rfl (.nil))))))) rfl (fun s hI l0_ih => ?_)
  obtain ⟨a, c⟩ := s
  dsimp only at hI l0_ih ⊢
  obtain ⟨ha, hW, hS⟩ := hI
  have hkc : ∀ o ∈ c, keyFits o.key := fun o ho => hk o (hW.perm.mem_iff.1 ho)
  have hlc : c.length = n := by rw [hW.len]; exact hn.symm
  refine AS.seq ?_
  refine AS.seq ?_
  refine AS.region rfl ?_
  refine AS.move rfl rfl rfl rfl ?_
  refine AS.move rfl rfl rfl rfl ?_
  refine AS.bin rfl rfl rfl rfl rfl (BinR.leq rfl) ?_
  refine AS.opsEnd ?_
  refine AS.cond rfl (fun hc0 => ?_) (fun hc0 => ?_)
  · have hlt : a + 20 ≤ n := by simp only [decide_eq_true_eq] at hc0; omega
    refine AS.skip ?_
    refine AS.block ?_
    refine AS.seq ?_
    refine AS.region rfl ?_
    refine AS.move rfl rfl rfl rfl ?_
    refine AS.move rfl rfl rfl rfl ?_
    refine AS.move rfl rfl rfl rfl ?_
    refine AS.move rfl rfl rfl rfl ?_
    refine AS.call rfl rfl rfl rfl TT11.en146 (insertion_spec c rs b n cap (a) (a + 20) H hkc (by omega) (by omega) hb (by omega)) ?_
    rintro _ _ ⟨c', w1, t1, rfl⟩
    refine AS.opsEnd ?_
    refine AS.seq ?_
    refine AS.region rfl ?_
    refine AS.move rfl rfl rfl rfl ?_
    refine AS.assign rfl rfl rfl rfl ?_
    refine AS.opsEnd ?_
    refine AS.region rfl ?_
    refine AS.move rfl rfl rfl rfl ?_
    refine AS.move rfl rfl rfl rfl ?_
    refine AS.bin rfl rfl rfl rfl rfl (BinR.add (c := ((a + 20 + 20 : Nat) : Int)) (by rw [w64 (by omega) (by omega)]; omega)) ?_
    refine AS.assign rfl rfl rfl rfl ?_
    refine AS.opsEnd ?_
    refine AS.inBlock ?_
    exact AS.nextI (l0_ih (a + 20, c') ⟨hlt, hW.trans (w1.mono (Nat.zero_le _) hlt), stU_step hS (by omega) w1 t1⟩ (by dsimp only; omega)) [] (.cons rfl (.cons rfl (.cons rfl (.cons rfl (.cons rfl (.cons rfl (.nil))))))) rfl
  · have hlt : n < a + 20 := by simp only [decide_eq_false_iff_not] at hc0; omega
    refine AS.exit rfl ?_
    refine AS.seq ?_
    refine AS.region rfl ?_
    refine AS.move rfl rfl rfl rfl ?_
    refine AS.move rfl rfl rfl rfl ?_
    refine AS.move rfl rfl rfl rfl ?_
    refine AS.move rfl rfl rfl rfl ?_
    refine AS.call rfl rfl rfl rfl TT11.en146 (insertion_spec c rs b n cap (a) (n) H hkc (by omega) (by omega) hb (by omega)) ?_
    rintro _ _ ⟨c1, w1, t1, rfl⟩
    have hB : Blocks c1 20 := stU_end hS (by omega) (by rw [hlc]; exact w1) (by rw [hlc]; exact t1)
    have hW1 : Within l c1 0 n := hW.trans (w1.mono (Nat.zero_le _) (Nat.le_refl _))
    refine AS.opsEnd ?_
    refine AS.block ?_
    refine AS.loopI (α := Nat × List Object) (fun s => 0 < s.1 ∧ Within l s.2 0 n ∧ Blocks s.2 s.1) (fun s => n - s.1) (fun s => [(6, .int .i64 s.1)]) [(0, _), (1, _), (2, _)] (fun s => (b, .row (rowOf encObj s.2 rs) 38) :: H) (20, c1) ⟨by dsimp only; omega, hW1, hB⟩ (.cons rfl (.cons rfl (.cons rfl (.cons rfl (.nil))))) rfl (fun s hI l1_ih => ?_)
    obtain ⟨u, c2⟩ := s
    dsimp only at hI l1_ih ⊢
    obtain ⟨hu, hW2, hB2⟩ := hI
    have hl2 : c2.length = n := by rw [hW2.len]; exact hn.symm
    refine AS.seq ?_
    refine AS.seq ?_
    refine AS.region rfl ?_
    refine AS.move rfl rfl rfl rfl ?_
    refine AS.move rfl rfl rfl rfl ?_
    refine AS.bin rfl rfl rfl rfl rfl (BinR.lss rfl) ?_
    refine AS.opsEnd ?_
    refine AS.cond rfl (fun hc1 => ?_) (fun hc1 => ?_)
    · have hun : u < n := by simp only [decide_eq_true_eq] at hc1; omega
      refine AS.skip ?_
      refine AS.block ?_
      refine AS.seq ?_
      refine AS.region rfl ?_
      refine AS.move rfl rfl rfl rfl ?_
      refine AS.bin rfl rfl rfl rfl rfl (BinR.mul (c := ((2 * u : Nat) : Int)) (by rw [w64 (by omega) (by omega)]; omega)) ?_
      refine AS.assign rfl rfl rfl rfl ?_
      refine AS.assign rfl rfl rfl rfl ?_
      refine AS.opsEnd ?_
      refine AS.seq ?_
      refine AS.block ?_
      refine AS.loopI (α := Nat × List Object) (fun s => s.1 ≤ n ∧ Within l s.2 0 n ∧ StB s.2 u s.1) (fun s => n - s.1) (fun s => [(7, .int .i64 s.1), (8, .int .i64 ((2 * u + s.1 : Nat) : Int))]) [(0, _), (1, _), (2, _), (6, _)] (fun s => (b, .row (rowOf encObj s.2 rs) 38) :: H) (0, c2) ⟨Nat.zero_le _, hW2, stB_start hu hB2⟩ (.cons rfl (.cons rfl (.cons rfl (.cons rfl (.cons rfl (.cons rfl (.nil))))))) rfl (fun s hI l2_ih => ?_)
      obtain ⟨a, c⟩ := s
      dsimp only at hI l2_ih ⊢
      obtain ⟨ha, hW, hS⟩ := hI
      have hpre := stB_pre hS
      have hpre2 : SortedR c (a + u) (2 * u + a) := by rw [Nat.add_comm (2 * u) a]; exact hpre.2
      have hkc : ∀ o ∈ c, keyFits o.key := fun o ho => hk o (hW.perm.mem_iff.1 ho)
      have hlc : c.length = n := by rw [hW.len]; exact hn.symm
      refine AS.seq ?_
      refine AS.seq ?_
      refine AS.region rfl ?_
      refine AS.move rfl rfl rfl rfl ?_
      refine AS.move rfl rfl rfl rfl ?_
      refine AS.bin rfl rfl rfl rfl rfl (BinR.leq rfl) ?_
      refine AS.opsEnd ?_
      refine AS.cond rfl (fun hc2 => ?_) (fun hc2 => ?_)
      · have hlt : a + 2 * u ≤ n := by simp only [decide_eq_true_eq] at hc2; omega
        refine AS.skip ?_
        refine AS.block ?_
        refine AS.seq ?_
        refine AS.region rfl ?_
        refine AS.move rfl rfl rfl rfl ?_
        refine AS.move rfl rfl rfl rfl ?_
        refine AS.move rfl rfl rfl rfl ?_
        refine AS.move rfl rfl rfl rfl ?_
        refine AS.bin rfl rfl rfl rfl rfl (BinR.add (c := ((a + u : Nat) : Int)) (by rw [w64 (by omega) (by omega)]; omega)) ?_
        refine AS.move rfl rfl rfl rfl ?_
        refine AS.move rfl rfl rfl rfl ?_
        refine AS.call rfl rfl rfl rfl TT11.en147 (symMerge_spec _ c rs b n cap a (a + u) (2 * u + a) H hkc (by omega) (by omega) hb (by omega) (by omega) hpre.1 hpre2 (Nat.lt_succ_self _)) ?_
        rintro _ _ ⟨c', w1, t1, rfl⟩
        rw [Nat.add_comm (2 * u) a] at w1 t1
        refine AS.opsEnd ?_
        refine AS.seq ?_
        refine AS.region rfl ?_
        refine AS.move rfl rfl rfl rfl ?_
        refine AS.assign rfl rfl rfl rfl ?_
        refine AS.opsEnd ?_
        refine AS.region rfl ?_
        refine AS.move rfl rfl rfl rfl ?_
        refine AS.move rfl rfl rfl rfl ?_
        refine AS.bin rfl rfl rfl rfl rfl (BinR.mul (c := ((2 * u : Nat) : Int)) (by rw [w64 (by omega) (by omega)]; omega)) ?_
        refine AS.bin rfl rfl rfl rfl rfl (BinR.add (c := ((2 * u + (2 * u + a) : Nat) : Int)) (by rw [w64 (by omega) (by omega)]; omega)) ?_
        refine AS.assign rfl rfl rfl rfl ?_
        refine AS.opsEnd ?_
        refine AS.inBlock ?_
        exact AS.nextI (l2_ih (2 * u + a, c') ⟨by dsimp only; omega, hW.trans (w1.mono (Nat.zero_le _) hlt), by dsimp only; rw [Nat.add_comm (2 * u) a]; exact stB_step hS hu w1 t1⟩ (by dsimp only; omega)) [] (.cons rfl (.cons rfl (.cons rfl (.cons rfl (.cons rfl (.cons rfl (.nil))))))) rfl
      · have hlt : n < a + 2 * u := by simp only [decide_eq_false_iff_not] at hc2; omega
        refine AS.exit rfl ?_
        refine AS.seq ?_
        refine AS.seq ?_
        refine AS.region rfl ?_
        refine AS.move rfl rfl rfl rfl ?_
        refine AS.move rfl rfl rfl rfl ?_
        refine AS.bin rfl rfl rfl rfl rfl (BinR.add (c := ((a + u : Nat) : Int)) (by rw [w64 (by omega) (by omega)]; omega)) ?_
        refine AS.assign rfl rfl rfl rfl ?_
        refine AS.opsEnd ?_
        refine AS.seq ?_
        refine AS.region rfl ?_
        refine AS.move rfl rfl rfl rfl ?_
        refine AS.move rfl rfl rfl rfl ?_
        refine AS.bin rfl rfl rfl rfl rfl (BinR.lss rfl) ?_
        refine AS.opsEnd ?_
        refine AS.cond rfl (fun hc3 => ?_) (fun hc3 => ?_)
        · have hm : a + u < n := by simp only [decide_eq_true_eq] at hc3; omega
          refine AS.region rfl ?_
          refine AS.move rfl rfl rfl rfl ?_
          refine AS.move rfl rfl rfl rfl ?_
          refine AS.move rfl rfl rfl rfl ?_
          refine AS.move rfl rfl rfl rfl ?_
          refine AS.move rfl rfl rfl rfl ?_
          refine AS.call rfl rfl rfl rfl TT11.en147 (symMerge_spec _ c rs b n cap a (a + u) n H hkc (by omega) (Nat.le_refl _) hb (by omega) hm hpre.1 (hpre.2.sub (Nat.le_refl _) (by omega)) (Nat.lt_succ_self _)) ?_
          rintro _ _ ⟨c', w1, t1, rfl⟩
          refine AS.opsEnd ?_
          refine AS.region rfl ?_
          refine AS.move rfl rfl rfl rfl ?_
          refine AS.bin rfl rfl rfl rfl rfl (BinR.mul (c := ((u * 2 : Nat) : Int)) (by rw [w64 (by omega) (by omega)]; omega)) ?_
          refine AS.assign rfl rfl rfl rfl ?_
          refine AS.opsEnd ?_
          refine AS.inBlock ?_
          exact AS.nextI (l1_ih (u * 2, c') ⟨by dsimp only; omega, hW.trans (w1.mono (Nat.zero_le _) (Nat.le_refl _)), stB_end1 hS (by omega) (by rw [hlc]; exact w1) (by rw [hlc]; exact t1)⟩ (by dsimp only; omega)) [] (.cons rfl (.cons rfl (.cons rfl (.cons rfl (.nil))))) rfl
        · have hm : n ≤ a + u := by simp only [decide_eq_false_iff_not] at hc3; omega
          refine AS.skip ?_
          refine AS.region rfl ?_
          refine AS.move rfl rfl rfl rfl ?_
          refine AS.bin rfl rfl rfl rfl rfl (BinR.mul (c := ((u * 2 : Nat) : Int)) (by rw [w64 (by omega) (by omega)]; omega)) ?_
          refine AS.assign rfl rfl rfl rfl ?_
          refine AS.opsEnd ?_
          refine AS.inBlock ?_
          exact AS.nextI (l1_ih (u * 2, c) ⟨by dsimp only; omega, hW, stB_end2 (c := c) hS hu (by omega)⟩ (by dsimp only; omega)) [] (.cons rfl (.cons rfl (.cons rfl (.cons rfl (.nil))))) rfl
    · have hun : n ≤ u := by simp only [decide_eq_false_iff_not] at hc1; omega
      refine AS.exit rfl ?_
      refine AS.rwk ?_
      refine AS.end_ Try.func133 rfl (.nil) ?_
      exact RWk.drop [] rfl ⟨c2, hW2, by have := blocks_end hB2 (by omega); rw [hl2] at this; exact this, rfl⟩
theorem sortStable_spec (l : List Object) (rs : List AV) (b n cap : Nat) (H : AH) (hk : ∀ o ∈ l, keyFits o.key) (hn : n = l.length) (hb : n ≤ 1000000) : ACalls Try.prog [] 100 [.mslice b 0 n cap, .func (.func 101) [] []] ((b, .row (rowOf encObj l rs) 38) :: H) (fun _ H' => ∃ l', Within l l' 0 n ∧ SortedR l' 0 n ∧ H' = (b, .row (rowOf encObj l' rs) 38) :: H) := by
  refine ACalls.enter (n := 9) Try.func100 rfl rfl (Nat.le_of_ble_eq_true rfl) ?_
  refine AS.region rfl ?_
  refine AS.move rfl rfl rfl rfl ?_
  refine AS.move rfl rfl rfl rfl ?_
  refine AS.len rfl rfl rfl rfl (by first | exact lenT_sl TT11.u48 | exact lenT_ms TT11.u48 | (rw [TT11.u48]; rfl)) rfl rfl ?_
  refine AS.move rfl rfl rfl rfl ?_
  refine AS.call rfl rfl rfl rfl TT11.en133 (stable_spec l rs b n cap H hk hn hb) ?_
  rintro _ _ ⟨c', w1, t1, rfl⟩
  refine AS.opsEnd ?_
  refine AS.rwk ?_
  refine AS.end_ Try.func100 rfl (.nil) ?_
  exact RWk.drop [] rfl ⟨c', w1, t1, rfl⟩
end Go.Proofs.Ytncecheccihjoaa
/- T12 -/
namespace Go.Proofs.Ytncecheccihjoaa.TT12
open Go Go.Proofs.Fw Go.Shelf
theorem en101 : Enters Go.Proofs.Try.prog 101 := enters_of Go.Proofs.Try.func101 (by kernel_rfl) rfl
theorem en102 : Enters Go.Proofs.Try.prog 102 := enters_of Go.Proofs.Try.func102 (by kernel_rfl) rfl
theorem en126 : Enters Go.Proofs.Try.prog 126 := enters_of Go.Proofs.Try.func126 (by kernel_rfl) rfl
theorem en133 : Enters Go.Proofs.Try.prog 133 := enters_of Go.Proofs.Try.func133 (by kernel_rfl) rfl
theorem en146 : Enters Go.Proofs.Try.prog 146 := enters_of Go.Proofs.Try.func146 (by kernel_rfl) rfl
theorem en147 : Enters Go.Proofs.Try.prog 147 := enters_of Go.Proofs.Try.func147 (by kernel_rfl) rfl
theorem en166 : Enters Go.Proofs.Try.prog 166 := enters_of Go.Proofs.Try.func166 (by kernel_rfl) rfl
theorem en175 : Enters Go.Proofs.Try.prog 175 := enters_of Go.Proofs.Try.func175 (by kernel_rfl) rfl
theorem en20 : Enters Go.Proofs.Try.prog 20 := enters_of Go.Proofs.Try.func20 (by kernel_rfl) rfl
theorem en21 : Enters Go.Proofs.Try.prog 21 := enters_of Go.Proofs.Try.func21 (by kernel_rfl) rfl
theorem en52 : Enters Go.Proofs.Try.prog 52 := enters_of Go.Proofs.Try.func52 (by kernel_rfl) rfl
theorem en66 : Enters Go.Proofs.Try.prog 66 := enters_of Go.Proofs.Try.func66 (by kernel_rfl) rfl
theorem fl38_0 : fldI Go.Proofs.Try.prog 38 0 = some 0 := by kernel_rfl
theorem fl38_5 : fldI Go.Proofs.Try.prog 38 5 = some 7 := by kernel_rfl
theorem fl50_0 : fldI Go.Proofs.Try.prog 50 0 = some 0 := by kernel_rfl
theorem fl50_1 : fldI Go.Proofs.Try.prog 50 1 = some 1 := by kernel_rfl
theorem fl50_2 : fldI Go.Proofs.Try.prog 50 2 = some 9 := by kernel_rfl
theorem fl50_3 : fldI Go.Proofs.Try.prog 50 3 = some 10 := by kernel_rfl
theorem mixed : Go.Proofs.Try.prog.follows .mixedOrders = true := by kernel_rfl
theorem sl28 : sliI Go.Proofs.Try.prog 28 = some (50, 11, 144) := by kernel_rfl
theorem sl36 : sliI Go.Proofs.Try.prog 36 = some (116, 2, 24) := by kernel_rfl
theorem sl48 : sliI Go.Proofs.Try.prog 48 = some (38, 8, 104) := by kernel_rfl
theorem ty2 : tyI Go.Proofs.Try.prog 2 = some (1, false) := by kernel_rfl
theorem ty35 : tyI Go.Proofs.Try.prog 35 = some (3, true) := by kernel_rfl
theorem ty36 : tyI Go.Proofs.Try.prog 36 = some (1, false) := by kernel_rfl
theorem ty38 : tyI Go.Proofs.Try.prog 38 = some (8, true) := by kernel_rfl
theorem ty47 : tyI Go.Proofs.Try.prog 47 = some (1, false) := by kernel_rfl
theorem ty48 : tyI Go.Proofs.Try.prog 48 = some (1, false) := by kernel_rfl
theorem ty50 : tyI Go.Proofs.Try.prog 50 = some (11, true) := by kernel_rfl
theorem u180 : Go.Proofs.Try.prog.underlying 180 = some (.int .u64) := by kernel_rfl
theorem u28 : Go.Proofs.Try.prog.underlying 28 = some (.slice 50) := by kernel_rfl
theorem u3 : Go.Proofs.Try.prog.underlying 3 = some (.int .i64) := by kernel_rfl
theorem u36 : Go.Proofs.Try.prog.underlying 36 = some (.slice 116) := by kernel_rfl
theorem u48 : Go.Proofs.Try.prog.underlying 48 = some (.slice 38) := by kernel_rfl
theorem z116 : zI Go.Proofs.Try.prog 116 = some (.agg #[(.string ⟨#[]⟩), (.int .i64 0)]) := by kernel_rfl
theorem z38 : zI Go.Proofs.Try.prog 38 = some (.agg #[(.string ⟨#[]⟩), (.string ⟨#[]⟩), (.string ⟨#[]⟩), (.int .i64 0), (.string ⟨#[]⟩), (.bool false), (.bool false), (.slice none 0 0)]) := by kernel_rfl
theorem z50 : zI Go.Proofs.Try.prog 50 = some (.agg #[(.int .i64 0), (.string ⟨#[]⟩), (.string ⟨#[]⟩), (.string ⟨#[]⟩), (.int .i64 0), (.string ⟨#[]⟩), (.bool false), (.bool false), (.slice none 0 0), (.int .i64 0), (.slice none 0 0)]) := by kernel_rfl
end Go.Proofs.Ytncecheccihjoaa.TT12
namespace Go.Proofs.Ytncecheccihjoaa
open Go Go.Proofs.Fw Go.Proofs
set_option linter.unusedVariables false
set_option linter.unusedSimpArgs false
set_option maxRecDepth 20000
set_option maxHeartbeats 4000000
theorem insertion_nil (fv : AV) (H : AH) : ACalls Try.prog [] 146 [.slice [] .full, .int .i64 0, .int .i64 0, fv] H (fun _ H' => H' = H) := by
  refine ACalls.enter (n := 53) Try.func146 rfl rfl (Nat.le_of_ble_eq_true rfl) ?_
  refine AS.seq ?_
  refine AS.region rfl ?_
  refine AS.move rfl rfl rfl rfl ?_
  refine AS.bin rfl rfl rfl rfl rfl (BinR.add (c := 1) rfl) ?_
  refine AS.assign rfl rfl rfl rfl ?_
  refine AS.opsEnd ?_
  refine AS.block ?_
  refine AS.loop ?_
  refine AS.seq ?_
  refine AS.seq ?_
  refine AS.region rfl ?_
  refine AS.move rfl rfl rfl rfl ?_
  refine AS.move rfl rfl rfl rfl ?_
  refine AS.bin rfl rfl rfl rfl rfl (BinR.lss (c := false) rfl) ?_
  refine AS.opsEnd ?_
  refine AS.condF rfl ?_
  refine AS.exit rfl ?_
  refine AS.rwk ?_
  refine AS.end_ Try.func146 rfl (.nil) ?_
  exact RWk.drop [] rfl rfl
theorem stable_nil (fv : AV) (H : AH) : ACalls Try.prog [] 133 [.slice [] .full, .int .i64 0, fv] H (fun _ H' => H' = H) := by
  refine ACalls.enter (n := 63) Try.func133 rfl rfl (Nat.le_of_ble_eq_true rfl) ?_
  refine AS.seq ?_
  refine AS.region rfl ?_
  refine AS.assign rfl rfl rfl rfl ?_
  refine AS.opsEnd ?_
  refine AS.seq ?_
  refine AS.region rfl ?_
  refine AS.move rfl rfl rfl rfl ?_
  refine AS.assign rfl rfl rfl rfl ?_
  refine AS.assign rfl rfl rfl rfl ?_
  refine AS.opsEnd ?_
  refine AS.seq ?_
  refine AS.block ?_
  refine AS.loop ?_
  refine AS.seq ?_
  refine AS.seq ?_
  refine AS.region rfl ?_
  refine AS.move rfl rfl rfl rfl ?_
  refine AS.move rfl rfl rfl rfl ?_
  refine AS.bin rfl rfl rfl rfl rfl (BinR.leq (c := false) rfl) ?_
  refine AS.opsEnd ?_
  refine AS.condF rfl ?_
  refine AS.exit rfl ?_
  refine AS.seq ?_
  refine AS.region rfl ?_
  refine AS.move rfl rfl rfl rfl ?_
  refine AS.move rfl rfl rfl rfl ?_
  refine AS.move rfl rfl rfl rfl ?_
  refine AS.move rfl rfl rfl rfl ?_
  refine AS.call rfl rfl rfl rfl TT12.en146 (insertion_nil _ H) ?_
  rintro _ _ rfl
  refine AS.opsEnd ?_
  refine AS.block ?_
  refine AS.loop ?_
  refine AS.seq ?_
  refine AS.seq ?_
  refine AS.region rfl ?_
  refine AS.move rfl rfl rfl rfl ?_
  refine AS.move rfl rfl rfl rfl ?_
  refine AS.bin rfl rfl rfl rfl rfl (BinR.lss (c := false) rfl) ?_
  refine AS.opsEnd ?_
  refine AS.condF rfl ?_
  refine AS.exit rfl ?_
  refine AS.rwk ?_
  refine AS.end_ Try.func133 rfl (.nil) ?_
  exact RWk.drop [] rfl rfl
theorem sortStable_nil (fv : AV) (H : AH) : ACalls Try.prog [] 100 [.slice [] .full, fv] H (fun _ H' => H' = H) := by
  refine ACalls.enter (n := 9) Try.func100 rfl rfl (Nat.le_of_ble_eq_true rfl) ?_
  refine AS.region rfl ?_
  refine AS.move rfl rfl rfl rfl ?_
  refine AS.move rfl rfl rfl rfl ?_
  refine AS.len rfl rfl rfl rfl (by first | exact lenT_sl TT12.u48 | exact lenT_ms TT12.u48 | (rw [TT12.u48]; rfl)) rfl rfl ?_
  refine AS.move rfl rfl rfl rfl ?_
  refine AS.call rfl rfl rfl rfl TT12.en133 (stable_nil _ H) ?_
  rintro _ _ rfl
  refine AS.opsEnd ?_
  refine AS.rwk ?_
  refine AS.end_ Try.func100 rfl (.nil) ?_
  exact RWk.drop [] rfl rfl
def svOf (i : Nat) : Option (Nat × Nat × List AV) → AV
  | none => .slice [] .full
  | some (b, cap, _) => .mslice b 0 i cap
def hpOf (out : List Object) (t : Nat) : Option (Nat × Nat × List AV) → AH
  | none => []
  | some (b, _, rs) => [(b, .row (rowOf encObj out rs) t)]
theorem rowTake {cs : List AV} {out : List Object} {m : Nat} (h : cs.take m = flat (out.map encObj)) : cs = rowOf encObj out (cs.drop m) := by
  rw [rowOf, ← h, List.take_append_drop]

theorem evown2_spec (e : Evt) (H : AH) (hl : e.objs.length ≤ 1000000) (hc : e.obj.charge.length ≤ 1000000) (hch : ∀ o ∈ e.objs, o.charge.length ≤ 1000000) : ACalls Try.prog [] 68 [encEv e] H (fun x H' => ∃ st, x = .agg [.int .i64 e.kind, .str e.obj.key.kind, .str e.obj.key.space, .str e.obj.key.name, .int .i64 e.obj.ver, .str e.obj.cls, .bool e.obj.term, .bool e.obj.best, .slice (e.obj.charge.map encRes) .any, .int .i64 e.ver, svOf e.objs.length st] ∧ H' = hpOf e.objs 38 st ++ H ∧ (st = none → e.objs = []) ∧ ∀ b cap rs, st = some (b, cap, rs) → e.objs.length ≤ cap) := by
  refine ACalls.enter (n := 26) Try.func68 rfl rfl (Nat.le_of_ble_eq_true rfl) ?_
  refine AS.seq ?_
  refine AS.region rfl ?_
  refine AS.box rfl rfl rfl rfl rfl ?_
  intro b1
  refine AS.allocZ rfl rfl rfl TT12.z50 rfl ?_
  intro b2
  refine AS.opsEnd ?_
  refine AS.seq ?_
  refine AS.region rfl ?_
  refine AS.fieldAddr rfl rfl rfl rfl TT12.fl50_1 ?_
  refine AS.load (y := encObj e.obj) rfl rfl rfl rfl TT12.ty38 rfl rfl rfl ?_
  refine AS.callP rfl rfl rfl rfl TT12.en66 (own_spec e.obj _ hc) ?_
  refine AS.fieldAddr rfl rfl rfl rfl TT12.fl50_1 ?_
  refine AS.store rfl rfl rfl rfl rfl rfl TT12.ty38 rfl rfl ?_
  refine AS.opsEnd ?_
  refine AS.seq ?_
  refine AS.region rfl ?_
  refine AS.assign rfl rfl rfl rfl ?_
  refine AS.opsEnd ?_
  refine AS.seq ?_
  refine AS.seq ?_
  refine AS.region rfl ?_
  refine AS.fieldAddr rfl rfl rfl rfl TT12.fl50_3 ?_
  refine AS.load rfl rfl rfl rfl TT12.ty48 rfl rfl rfl ?_
  refine AS.len rfl rfl rfl rfl (by first | exact lenT_sl TT12.u48 | exact lenT_ms TT12.u48 | (rw [TT12.u48]; rfl)) rfl (lenMap _ _) ?_
  refine AS.move rfl rfl rfl rfl ?_
  refine AS.opsEnd ?_
  refine AS.block ?_
  refine AS.loopI (α := Nat × List Object × Option (Nat × Nat × List AV)) (fun s => s.1 ≤ e.objs.length ∧ s.2.1 = e.objs.take s.1 ∧ (s.2.2 = none → s.2.1 = []) ∧ ∀ b cap rs, s.2.2 = some (b, cap, rs) → s.1 ≤ cap ∧ (rowOf encObj s.2.1 rs).length = cap * 8) (fun s => e.objs.length - s.1) (fun s => [(3, svOf s.1 s.2.2), (13, .int .i64 s.1)]) [(1, _), (2, _), (11, _), (12, _)] (fun s => hpOf s.2.1 38 s.2.2 ++ _) (0, [], none) ⟨Nat.zero_le _, by simp, fun _ => rfl, fun _ _ _ h => by cases h⟩ (.cons rfl (.cons rfl (.cons rfl (.cons rfl (.cons rfl (.cons rfl (.nil))))))) rfl (fun s hI l0_ih => ?_)
  obtain ⟨i, out, st⟩ := s
  dsimp only at hI l0_ih ⊢
  obtain ⟨i1, hout, hnone, hsome⟩ := hI
  refine AS.seq ?_
  refine AS.region rfl ?_
  refine AS.bin rfl rfl rfl rfl rfl (BinR.lss rfl) ?_
  refine AS.opsEnd ?_
  refine AS.seq ?_
  refine AS.cond rfl (fun hc0 => ?_) (fun hc0 => ?_)
  · have hi : i < e.objs.length := by simp only [decide_eq_true_eq] at hc0; omega
    obtain ⟨o, ho⟩ := getAt hi
    have hol : out.length = i := by rw [hout, List.length_take]; omega
    have hout2 : out ++ [o] = e.objs.take (i + 1) := by rw [hout, List.take_add_one, ho]; rfl
    refine AS.skip ?_
    refine AS.seq ?_
    refine AS.block ?_
    refine AS.seq ?_
    refine AS.region rfl ?_
    refine AS.indexAddr rfl rfl rfl rfl rfl TT12.sl48 (Int.natCast_nonneg _) (map_get _ _ ho) rfl ?_
    refine AS.iload (y := encObj o) rfl rfl rfl rfl TT12.ty38 rfl rfl rfl ?_
    refine AS.allocZ rfl rfl rfl TT12.z38 rfl ?_
    intro b5
    refine AS.store rfl rfl rfl rfl rfl rfl TT12.ty38 rfl rfl ?_
    refine AS.opsEnd ?_
    rcases st with _ | ⟨b, cap, rs⟩ <;> dsimp only [hpOf, svOf, List.nil_append, List.cons_append]
    · refine AS.region rfl ?_
      refine AS.move rfl rfl rfl rfl ?_
      refine AS.load (y := encObj o) rfl rfl rfl rfl TT12.ty38 rfl rfl rfl ?_
      refine AS.callP rfl rfl rfl rfl TT12.en66 (own_spec o _ (hch o (List.mem_of_getElem? ho))) ?_
      refine AS.buildSlice1 rfl rfl rfl TT12.sl48 rfl rfl rfl ?_
      refine AS.appendRow0 (ys := [encObj o]) rfl rfl rfl rfl rfl TT12.sl48 (by simp [encObj_sz]) (Nat.lt_succ_self 0) (by show 1 * 104 ≤ _; decide) ?_
      intro b' cap' cs' q1 q2 q3
      have hn0 : out = [] := hnone rfl
      subst hn0
      obtain ⟨rs', hrs⟩ : ∃ rs', cs' = rowOf encObj [o] rs' := ⟨_, rowTake (out := [o]) q3⟩
      subst hrs
      refine AS.assign rfl rfl rfl rfl ?_
      refine AS.opsEnd ?_
      refine AS.dropH [_] [_] rfl ?_
      refine AS.inBlock ?_
      refine AS.region rfl ?_
      refine AS.bin rfl rfl rfl rfl rfl (BinR.add (w64 (by omega) (by omega))) ?_
      refine AS.move rfl rfl rfl rfl ?_
      refine AS.opsEnd ?_
      have hi0 : i = 0 := hol.symm
      subst hi0
      exact AS.nextI (l0_ih (1, [o], some (b', cap', rs')) ⟨hi, hout2, fun h => (by cases h), fun _ _ _ h => by cases h; exact ⟨q2, q1⟩⟩ (by dsimp only; omega)) [] (.cons rfl (.cons rfl (.cons rfl (.cons rfl (.cons rfl (.cons rfl (.nil))))))) rfl
    · refine AS.region rfl ?_
      refine AS.move rfl rfl rfl rfl ?_
      refine AS.load (y := encObj o) rfl rfl rfl rfl TT12.ty38 rfl rfl rfl ?_
      refine AS.callP rfl rfl rfl rfl TT12.en66 (own_spec o _ (hch o (List.mem_of_getElem? ho))) ?_
      refine AS.buildSlice1 rfl rfl rfl TT12.sl48 rfl rfl rfl ?_
      refine AS.appendRow (ys := [encObj o]) rfl rfl rfl rfl rfl TT12.sl48 (hsome _ _ _ rfl).2 (hsome _ _ _ rfl).1 (by simp [encObj_sz]) (by simpa using map_one encObj_flat [o]) (Nat.lt_succ_self 0) (by simp only [List.length_singleton]; omega) ?_
      intro b' cap' cs' q1 q2 q3
      obtain ⟨rs', hrs⟩ : ∃ rs', cs' = rowOf encObj (out ++ [o]) rs' := ⟨_, rowTake (out := out ++ [o]) (by
        rw [q3, List.map_append]
        have := row_pick0 (rs := rs) encObj_sz out
        rw [hol] at this
        rw [this]; simp [flat])⟩
      subst hrs
      refine AS.assign rfl rfl rfl rfl ?_
      refine AS.opsEnd ?_
      refine AS.dropH [_] [_] rfl ?_
      refine AS.inBlock ?_
      refine AS.region rfl ?_
      refine AS.bin rfl rfl rfl rfl rfl (BinR.add (w64 (by omega) (by omega))) ?_
      refine AS.move rfl rfl rfl rfl ?_
      refine AS.opsEnd ?_
      exact AS.nextI (l0_ih (i + 1, out ++ [o], some (b', cap', rs')) ⟨hi, hout2, fun h => (by cases h), fun _ _ _ h => by cases h; exact ⟨q2, q1⟩⟩ (by dsimp only; omega)) [] (.cons rfl (.cons rfl (.cons rfl (.cons rfl (.cons rfl (.cons rfl (.nil))))))) rfl
  · have hieq : i = e.objs.length := by simp only [decide_eq_false_iff_not] at hc0; omega
    have hfin : out = e.objs := by rw [hout, hieq, List.take_length]
    subst hieq
    refine AS.exit rfl ?_
    refine AS.seq ?_
    subst hfin
    rcases st with _ | ⟨b, cap, rs⟩ <;> dsimp only [hpOf, svOf, List.nil_append, List.cons_append]
    · refine AS.region rfl ?_
      refine AS.move rfl rfl rfl rfl ?_
      refine AS.fieldAddr rfl rfl rfl rfl TT12.fl50_3 ?_
      refine AS.store rfl rfl rfl rfl rfl rfl TT12.ty48 rfl rfl ?_
      refine AS.opsEnd ?_
      refine AS.seq ?_
      refine AS.region rfl ?_
      refine AS.load rfl rfl rfl rfl TT12.ty50 rfl rfl rfl ?_
      refine AS.store rfl rfl rfl rfl rfl rfl TT12.ty50 rfl rfl ?_
      refine AS.opsEnd ?_
      refine AS.retW Try.func68 rfl (.cell rfl TT12.ty50 rfl rfl rfl (.nil)) ?_
      exact RWk.drop [_, _] rfl ⟨none, rfl, rfl, hnone, fun _ _ _ h => by cases h⟩
    · refine AS.region rfl ?_
      refine AS.move rfl rfl rfl rfl ?_
      refine AS.fieldAddr rfl rfl rfl rfl TT12.fl50_3 ?_
      refine AS.store rfl rfl rfl rfl rfl rfl TT12.ty48 rfl rfl ?_
      refine AS.opsEnd ?_
      refine AS.seq ?_
      refine AS.region rfl ?_
      refine AS.load rfl rfl rfl rfl TT12.ty50 rfl rfl rfl ?_
      refine AS.store rfl rfl rfl rfl rfl rfl TT12.ty50 rfl rfl ?_
      refine AS.opsEnd ?_
      refine AS.retW Try.func68 rfl (.cell rfl TT12.ty50 rfl rfl rfl (.nil)) ?_
      exact RWk.drop2 [_] [_, _] rfl ⟨some (b, cap, rs), rfl, rfl, hnone, fun b cap rs h => (hsome b cap rs h).1⟩
end Go.Proofs.Ytncecheccihjoaa
/- T13 -/
namespace Go.Proofs.Ytncecheccihjoaa.TT13
open Go Go.Proofs.Fw Go.Shelf
theorem b50 : bldI Go.Proofs.Try.prog 50 = some ([(.int .i64 0), (.str ⟨#[]⟩), (.str ⟨#[]⟩), (.str ⟨#[]⟩), (.int .i64 0), (.str ⟨#[]⟩), (.bool false), (.bool false), (.slice [] .full), (.int .i64 0), (.slice [] .full)], [(0, 1), (1, 8), (9, 1), (10, 1)]) := by kernel_rfl
theorem en100 : Enters Go.Proofs.Try.prog 100 := enters_of Go.Proofs.Try.func100 (by kernel_rfl) rfl
theorem en101 : Enters Go.Proofs.Try.prog 101 := enters_of Go.Proofs.Try.func101 (by kernel_rfl) rfl
theorem en102 : Enters Go.Proofs.Try.prog 102 := enters_of Go.Proofs.Try.func102 (by kernel_rfl) rfl
theorem en126 : Enters Go.Proofs.Try.prog 126 := enters_of Go.Proofs.Try.func126 (by kernel_rfl) rfl
theorem en133 : Enters Go.Proofs.Try.prog 133 := enters_of Go.Proofs.Try.func133 (by kernel_rfl) rfl
theorem en146 : Enters Go.Proofs.Try.prog 146 := enters_of Go.Proofs.Try.func146 (by kernel_rfl) rfl
theorem en147 : Enters Go.Proofs.Try.prog 147 := enters_of Go.Proofs.Try.func147 (by kernel_rfl) rfl
theorem en166 : Enters Go.Proofs.Try.prog 166 := enters_of Go.Proofs.Try.func166 (by kernel_rfl) rfl
theorem en175 : Enters Go.Proofs.Try.prog 175 := enters_of Go.Proofs.Try.func175 (by kernel_rfl) rfl
theorem en20 : Enters Go.Proofs.Try.prog 20 := enters_of Go.Proofs.Try.func20 (by kernel_rfl) rfl
theorem en21 : Enters Go.Proofs.Try.prog 21 := enters_of Go.Proofs.Try.func21 (by kernel_rfl) rfl
theorem en52 : Enters Go.Proofs.Try.prog 52 := enters_of Go.Proofs.Try.func52 (by kernel_rfl) rfl
theorem en66 : Enters Go.Proofs.Try.prog 66 := enters_of Go.Proofs.Try.func66 (by kernel_rfl) rfl
theorem en68 : Enters Go.Proofs.Try.prog 68 := enters_of Go.Proofs.Try.func68 (by kernel_rfl) rfl
theorem fl38_0 : fldI Go.Proofs.Try.prog 38 0 = some 0 := by kernel_rfl
theorem fl38_5 : fldI Go.Proofs.Try.prog 38 5 = some 7 := by kernel_rfl
theorem fl50_0 : fldI Go.Proofs.Try.prog 50 0 = some 0 := by kernel_rfl
theorem fl50_1 : fldI Go.Proofs.Try.prog 50 1 = some 1 := by kernel_rfl
theorem fl50_2 : fldI Go.Proofs.Try.prog 50 2 = some 9 := by kernel_rfl
theorem fl50_3 : fldI Go.Proofs.Try.prog 50 3 = some 10 := by kernel_rfl
theorem mixed : Go.Proofs.Try.prog.follows .mixedOrders = true := by kernel_rfl
theorem sl28 : sliI Go.Proofs.Try.prog 28 = some (50, 11, 144) := by kernel_rfl
theorem sl36 : sliI Go.Proofs.Try.prog 36 = some (116, 2, 24) := by kernel_rfl
theorem sl48 : sliI Go.Proofs.Try.prog 48 = some (38, 8, 104) := by kernel_rfl
theorem ty2 : tyI Go.Proofs.Try.prog 2 = some (1, false) := by kernel_rfl
theorem ty35 : tyI Go.Proofs.Try.prog 35 = some (3, true) := by kernel_rfl
theorem ty36 : tyI Go.Proofs.Try.prog 36 = some (1, false) := by kernel_rfl
theorem ty38 : tyI Go.Proofs.Try.prog 38 = some (8, true) := by kernel_rfl
theorem ty47 : tyI Go.Proofs.Try.prog 47 = some (1, false) := by kernel_rfl
theorem ty48 : tyI Go.Proofs.Try.prog 48 = some (1, false) := by kernel_rfl
theorem ty50 : tyI Go.Proofs.Try.prog 50 = some (11, true) := by kernel_rfl
theorem u180 : Go.Proofs.Try.prog.underlying 180 = some (.int .u64) := by kernel_rfl
theorem u28 : Go.Proofs.Try.prog.underlying 28 = some (.slice 50) := by kernel_rfl
theorem u3 : Go.Proofs.Try.prog.underlying 3 = some (.int .i64) := by kernel_rfl
theorem u36 : Go.Proofs.Try.prog.underlying 36 = some (.slice 116) := by kernel_rfl
theorem u48 : Go.Proofs.Try.prog.underlying 48 = some (.slice 38) := by kernel_rfl
theorem u50 : Go.Proofs.Try.prog.underlying 50 = some (.struct #[⟨"Kind", 47, 0, false, "", "", 0⟩, ⟨"Object", 38, 1, false, "", "", 8⟩, ⟨"Version", 2, 9, false, "", "", 112⟩, ⟨"Objects", 48, 10, false, "", "", 120⟩]) := by kernel_rfl
theorem z116 : zI Go.Proofs.Try.prog 116 = some (.agg #[(.string ⟨#[]⟩), (.int .i64 0)]) := by kernel_rfl
theorem z38 : zI Go.Proofs.Try.prog 38 = some (.agg #[(.string ⟨#[]⟩), (.string ⟨#[]⟩), (.string ⟨#[]⟩), (.int .i64 0), (.string ⟨#[]⟩), (.bool false), (.bool false), (.slice none 0 0)]) := by kernel_rfl
theorem z50 : zI Go.Proofs.Try.prog 50 = some (.agg #[(.int .i64 0), (.string ⟨#[]⟩), (.string ⟨#[]⟩), (.string ⟨#[]⟩), (.int .i64 0), (.string ⟨#[]⟩), (.bool false), (.bool false), (.slice none 0 0), (.int .i64 0), (.slice none 0 0)]) := by kernel_rfl
end Go.Proofs.Ytncecheccihjoaa.TT13
namespace Go.Proofs.Ytncecheccihjoaa
open Go Go.Proofs.Fw Go.Proofs
set_option linter.unusedVariables false
set_option linter.unusedSimpArgs false
set_option maxRecDepth 20000
set_option maxHeartbeats 4000000
theorem sorted_spec (l : List Object) (H : AH) (hl : l.length ≤ 1000000) (hk : ∀ o ∈ l, keyFits o.key) (ha : Apart l) (hch : ∀ o ∈ l, o.charge.length ≤ 1000000) : ACalls Try.prog [] 61 [.slice (l.map encObj) .any] H (fun x H' => x = .slice ((sortO l).map encObj) .any ∧ H' = H) := by
  refine ACalls.enter (n := 11) Try.func61 rfl rfl (Nat.le_of_ble_eq_true rfl) ?_
  refine AS.seq ?_
  refine AS.region rfl ?_
  refine AS.assign rfl rfl rfl rfl ?_
  refine AS.opsEnd ?_
  refine AS.seq ?_
  refine AS.region rfl ?_
  refine AS.move rfl rfl rfl rfl ?_
  refine AS.build rfl rfl rfl TT13.b50 rfl rfl ?_
  refine AS.weak 5 (encEv ⟨0, noObj, 0, l⟩) rfl (AVLe.agg (.cons (.refl _) (.cons (.refl _) (.cons (.refl _) (.cons (.refl _) (.cons (.refl _) (.cons (.refl _) (.cons (.refl _) (.cons (.refl _) (.cons (AVLe.tok _ _) (.cons (.refl _) (.cons (.refl _) .nil)))))))))))) ?_
  refine AS.call rfl rfl rfl rfl TT13.en68 (evown2_spec ⟨0, noObj, 0, l⟩ H hl (Nat.zero_le _) hch) ?_
  rintro _ _ ⟨st, rfl, rfl, hnone, hsome⟩
  rcases st with _ | ⟨b, cap, rs⟩ <;> dsimp only [hpOf, svOf, List.nil_append, List.cons_append]
  · skip
    refine AS.field rfl rfl rfl rfl TT13.u50 rfl TT13.ty48 rfl rfl ?_
    refine AS.assign rfl rfl rfl rfl ?_
    refine AS.opsEnd ?_
    refine AS.seq ?_
    refine AS.region rfl ?_
    refine AS.move rfl rfl rfl rfl ?_
    refine AS.call rfl rfl rfl rfl TT13.en100 (sortStable_nil _ H) ?_
    intro _ H2 h2
    rw [h2]
    refine AS.opsEnd ?_
    refine AS.seq ?_
    refine AS.region rfl ?_
    refine AS.move rfl rfl rfl rfl ?_
    refine AS.assign rfl rfl rfl rfl ?_
    refine AS.opsEnd ?_
    refine AS.retW Try.func61 rfl (.tmp rfl (.nil)) ?_
    have h0 : l = [] := hnone rfl
    subst h0
    exact ⟨_, H, Wk.le (AVLe.tok _ _), rfl, rfl⟩
  · skip
    refine AS.field rfl rfl rfl rfl TT13.u50 rfl TT13.ty48 rfl rfl ?_
    refine AS.assign rfl rfl rfl rfl ?_
    refine AS.opsEnd ?_
    refine AS.seq ?_
    refine AS.region rfl ?_
    refine AS.move rfl rfl rfl rfl ?_
    refine AS.call rfl rfl rfl rfl TT13.en100 (sortStable_spec l rs b l.length cap H hk rfl hl) ?_
    rintro _ _ ⟨c', w1, t1, rfl⟩
    refine AS.opsEnd ?_
    refine AS.seq ?_
    refine AS.region rfl ?_
    refine AS.move rfl rfl rfl rfl ?_
    refine AS.assign rfl rfl rfl rfl ?_
    refine AS.opsEnd ?_
    refine AS.retW Try.func61 rfl (.tmp rfl (.nil)) ?_
    refine ⟨_, H, Wk.freeze (b := b) (Froze.slice 0 l.length cap 8 (c'.map encObj) .any (by rw [List.length_map, w1.len]) (hsome _ _ _ rfl) (map_allSz encObj_sz (fun _ => rfl) _) (by rw [List.drop_zero, ← w1.len, row_pick0 encObj_sz]) (.inl rfl)), ?_, rfl⟩
    rw [sorted_is w1.perm (by rw [w1.len]; exact t1) ha]
end Go.Proofs.Ytncecheccihjoaa
/- Keys of a map that are structs of plain fields. -/
namespace Go.Proofs.Fw
open Go Go.Shelf Go.RowKit
set_option linter.unusedVariables false
set_option linter.unusedSimpArgs false
variable {P : Program}

theorem checkKey_plain {e : Bool} {d : Nat} {t : TypeId} {v : Value} {w : World} (h : plainD (P.underlying t) = true) : (Instr.checkKey e (d + 1) t v).run P w = .ok () w := by
  unfold plainD at h
  split at h
  · rename_i h'; simp [Instr.checkKey, run_underlying h']
  · rename_i h'; simp [Instr.checkKey, run_underlying h']
  · rename_i h'; simp [Instr.checkKey, run_underlying h']
  · cases h

theorem checkFields {e : Bool} {d : Nat} {arr : Array Value} {w : World} : ∀ (fs : List Field) (j : Nat), fieldsOk P fs j = true → arr.size = j + fs.length →
    Sem.run P (forIn fs PUnit.unit fun f r => do
      if f.name ≠ "_" then do
        let a ← part f.type arr f.offset
        Instr.checkKey e (d + 1) f.type a
        pure (ForInStep.yield PUnit.unit)
      else pure (ForInStep.yield PUnit.unit)) w = .ok PUnit.unit w
  | [], j, _, _ => by simp
  | f :: fs, j, hf, hs => by
    simp only [fieldsOk, Bool.and_eq_true, decide_eq_true_eq, beq_iff_eq] at hf
    obtain ⟨⟨⟨hname, hoff⟩, hpl⟩, hrest⟩ := hf
    have hja : j < arr.size := by simp at hs; omega
    have ha : arr[j]? = some (arr[j]'hja) := Array.getElem?_eq_getElem hja
    have ih := checkFields (e := e) (d := d) (arr := arr) (w := w) fs (j + 1) hrest (by simp at hs; omega)
    simp only [List.forIn_cons, hname, ne_eq, not_false_eq_true, if_true, Sem.run_bind, hoff, run_part_plain hpl ha, Result.andThen_ok, checkKey_plain hpl, Sem.run_pure]
    exact ih

theorem checkKey_struct {e : Bool} {d : Nat} {t : TypeId} {fs : Array Field} {arr : Array Value} {w : World} (hu : P.underlying t = some (.struct fs)) (hf : fieldsOk P fs.toList 0 = true) (hs : arr.size = 0 + fs.toList.length) :
    (Instr.checkKey e (d + 1 + 1) t (.agg arr)).run P w = .ok () w := by
  have := checkFields (P := P) (e := e) (d := d) (arr := arr) (w := w) fs.toList 0 hf hs
  rw [Instr.checkKey]
  simp only [Sem.run_bind, run_underlying hu, Result.andThen_ok]
  rw [← Array.forIn_toList]
  rw [this]; rfl

theorem keyR_key {t : TypeId} {fs : Array Field} (hu : P.underlying t = some (.struct fs)) (ht : plainS P t = true) (hn : fs.size = 3) (hl : ∀ a b c a' b' c' : ByteArray, likeAll P fs.toList [.str a, .str b, .str c] [.str a', .str b', .str c'] = true) : KeyR P t encKey where
  check V w v x e hv := by
    cases hv with
    | agg _ arr h1 hc =>
      have hf : fieldsOk P fs.toList 0 = true := by
        simp only [plainS, Bool.and_eq_true] at ht
        have := ht.1.1
        rw [hu] at this; exact this
      have hsz : arr.size = 0 + fs.toList.length := by simp at h1; simp [h1, hn]
      exact checkKey_struct (d := 9998) hu hf hsz
  eq V w v u x y hv hu' := by
    have := (equal_struct (w := w) ht (by rw [hu]; exact hl _ _ _ _ _ _) hv hu').1
    rw [this, keyEq]
  now := ⟨_, hu, .inr fun V v u x y _ _ => by simp [Instr.sameNow]⟩
  same V v u x hv hu' := by
    cases hv with
    | agg _ arr h1 hc =>
      cases hu' with
      | agg _ brr h2 hc2 =>
        have key : ∀ i : Nat, ∀ (hi : i < 3), ∃ s, arr[i]? = some (.string s) ∧ brr[i]? = some (.string s) := by
          intro i hi
          have ha : i < arr.size := by simp at h1; omega
          have hb : i < brr.size := by simp at h2; omega
          have e1 := Array.getElem?_eq_getElem ha
          have e2 := Array.getElem?_eq_getElem hb
          have hx : ∃ s, [AV.str x.kind, .str x.space, .str x.name][i]? = some (.str s) := by
            match i, hi with
            | 0, _ => exact ⟨_, rfl⟩
            | 1, _ => exact ⟨_, rfl⟩
            | 2, _ => exact ⟨_, rfl⟩
          obtain ⟨s, hs⟩ := hx
          have v1 := hc i _ _ hs e1
          have v2 := hc2 i _ _ hs e2
          generalize arr[i] = z1 at v1 e1
          generalize brr[i] = z2 at v2 e2
          cases v1; cases v2
          exact ⟨s, e1, e2⟩
        have he : arr = brr := by
          apply Array.ext_getElem?
          intro i
          rcases Nat.lt_or_ge i 3 with h | h
          · obtain ⟨s, a, b⟩ := key i h; rw [a, b]
          · rw [Array.getElem?_eq_none (by simp at h1; omega), Array.getElem?_eq_none (by simp at h2; omega)]
        subst he
        obtain ⟨s0, a0, _⟩ := key 0 (by omega)
        obtain ⟨s1, a1, _⟩ := key 1 (by omega)
        obtain ⟨s2, a2, _⟩ := key 2 (by omega)
        have hl3 : arr.size = 3 := by simpa using h1
        have : arr = #[.string s0, .string s1, .string s2] := by
          apply Array.ext_getElem?
          intro i
          match i with
          | 0 => simpa using a0
          | 1 => simpa using a1
          | 2 => simpa using a2
          | i + 3 => rw [Array.getElem?_eq_none (by omega)]; simp
        rw [this]
        simp [Instr.sameBits, bytes_eq]
def Object.wv (o : Object) (v : Int) : Object := { o with ver := v }
end Go.Proofs.Fw
